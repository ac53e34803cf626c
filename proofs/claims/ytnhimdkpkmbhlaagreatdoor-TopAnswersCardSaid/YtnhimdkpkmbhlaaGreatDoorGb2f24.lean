import Derived.Test.YtnhimdkpkmbhlaaGreatDoorGa1a2c
import Derived.Test.YtnhimdkpkmbhlaaGreatDoorGb177c
set_option maxRecDepth 100000
set_option maxHeartbeats 8000000
set_option linter.unusedSimpArgs false
set_option linter.unusedVariables false
namespace Go.Proofs.YtnhimdkpkmbhlaaGreatDoor
section
open ChangeShapes WideShapes RowKit
theorem Rx {K:CK} {B n kn kw:Nat} {w0 w:World} {fs:List Fact} {m:Cl} {H:List LX} (hn:n<5) (hkn:K.nb n=kn) (cO:K.wb=kw) (hu:Uk B w0) (hB1:m.fly.length<=1000000000) (hB2:m.aP.length<=900000000000) (HW:Wd K B w0 w fs m H) (hT:Bl (m.au n).data (m.au n).syn=some (vB (cu (m.au n).data (m.au n).syn))) (hvv: ∀ q,q<4->aj (cu (m.au n).data (m.au n).syn q)=0) (hbz:(sJ (jw (m.au n).data (m.au n).syn).1 (jw (m.au n).data (m.au n).syn).2.1).1.length*80<=reachBytes) (hmay: ∀ d,eT (jw (m.au n).data (m.au n).syn).2.1 (cu (m.au n).data (m.au n).syn) [0,1,2,3] (jw (m.au n).data (m.au n).syn).1=some d->dz d (jw (m.au n).data (m.au n).syn).2.1=true) (hsh: ∀ a b,0<=(m.shown a b).2):
    Calls tP 58 #[pV kw 0,pV kn 0] w (λe w'=>e= .returned (.tuple #[])/\Wd K B w0 w' fs (m.start n) H):=by
 obtain ⟨R,G,S0⟩:=HW.open hn;have hfl:R.fx.length=m.fly.length:=by rw [<-G.fly,List.length_map]
 have NG:=G.lW n hn;obtain ⟨X,hX⟩: ∃ X,m.au n=X:=⟨_,rfl⟩;obtain ⟨z,hz⟩: ∃ z,R.nx n=z:=⟨_,rfl⟩;rw [hX,hz] at S0 NG;have hL: ∀ f∈R.L,f∈fP K R m fs n:=λf h=>List.mem_append_right _ (List.mem_append_right _ h);obtain ⟨rr,hrr⟩: ∃ r,fP K R m fs n=r:=⟨_,rfl⟩;rw [hrr] at S0 hL;have S:St B w0 w (cN kn n X z z.pv (cF kw R m rr)):=by subst hkn;subst cO;exact S0
 clear S0 HW;have hlen:=(S.own 1 rfl).1;rw [gX (sz:=6) (λ_=>rfl)] at hlen;have azj:z.pv.oneCell'=true:=adC NG.qY;obtain ⟨P1,hP1⟩: ∃ r,jw X.data X.syn=r:=⟨_,rfl⟩;rw [hX] at hT hvv hbz hmay;have HRd:=λw h=>FY z.tA z.tc X.data X.syn w h hT hbz;rw [hP1] at HRd hmay;refine gy 113 Tryz.func58 ?_;refine cw [0,1] ?_;refine zN 9 ?_
 cases hb1:(X.up)
 ·refine bn (l':=[(0,pV kw 0),(1,pV kn 0),(18,.bool false)]) ⟨rfl,rfl,rfl,trivial⟩ (dD rfl (gG (aI (aH (aB (vm ?_))))));refine zN 2 ?_;refine vv (ah rfl rfl (aA (cs:=[.slice z.tA X.data.length z.tc,iV X.syn]) Tryz.underlying116 rfl eZ rfl (St.rg 0 S rfl (qN)))) ?_;refine dN an1 (HRd _ (NG.wM.rd S (memT 7 rfl hL))) ?_;rintro _ w9 ⟨A2,c3,bB,bs,hbm,hbl,hbc,rfl,T8⟩;refine ⟨_,rfl,?_⟩;have pI:=S.ext T8 (by simp [IQ,Fact.F3]);have qI:St B w0 w9 ((oB bB bs)::(.cZ 1 A2 P1.1.length (byteCells P1.1))::(cN kn n X z z.pv (cF kw R m (rr++eP bs)))):=St.perm pI (List.Perm.cons _ (List.Perm.cons _ (List.perm_append_comm (l₁:=eP bs))));clear S;refine zN 3 ?_;refine fO qI xV ?_;intro b12 Cm jY;refine stA 0 jY eZ ?_;intro Jt lV;refine zN 6 ?_;refine dN arx (KV _ 4 4 (bs.flatMap BX.cells) _ (St.ord 1 lV rfl) (ahb _) (by decide)) ?_;rintro _ EH ⟨KF,c18,rfl,azk,azl⟩;refine ⟨_,rfl,?_⟩;have iI:=lV.sD azk azl;obtain ⟨wB,hWA⟩:=CU (iI.own 0 rfl) (by decide);subst hWA;refine zN 8 ?_;refine fO iI asi ?_;intro yR LM jm;refine stA 0 jm aa8 ?_ (h1:=by exact as3 rfl rfl rfl azj);intro LB rW;refine zN 6 ?_;refine jk (row':=dK n X.up (.slice A2 P1.1.length c3) P1.2.1 (.slice (aD z.bb 0) 4 4) X.hints X.sure (.slice z.iA z.ix.length z.ic) (z.pv) X.turn) 0 rW eZ ?_;intro RY nH;refine zN 11 ?_;have yB:=nH.aT [2];have ni:St B w0 RY (_::_::_::_::_::_::_::_::_::_::((rr++eP bs)++[.cZ 1 A2 P1.1.length (byteCells P1.1)])):=yB.toEnd 3 rfl;have qj:=ni.dZ [9,9,9,9,9,9,9];refine eD (X:=Nat×(Option Addr)×Nat×(List UInt8)×(List BX)×(List Fact)) (λxv=>[(0,pV kw 0),(1,pV kn 0),(5,.slice (aD bB 0) 4 4),(6,.slice (aD wB 0) 4 c18),(7,pV yR 0),(34,.slice (aD bB 0) 4 4),(35,iV 4),(36,iV ((xv.1:Nat):Int))]) (λxv wr=>(xv.1<=4)/\(eT P1.2.1 (cu X.data X.syn) [0,1,2,3] P1.1=eT P1.2.1 (cu X.data X.syn) ((List.range 4).drop xv.1) xv.2.2.2.1)/\(xv.2.2.2.2.1.map BX.b=vB (λj=>if j<xv.1/\((cu X.data X.syn) j).role=1 then (fJ ((cu X.data X.syn) j)).1 else (cu X.data X.syn) j))/\(∀ y∈xv.2.2.2.2.1,Aa (eP bs++xv.2.2.2.2.2) y)/\(Ro xv.2.2.2.2.2 1 xv.2.1 xv.2.2.2.1.length (byteCells xv.2.2.2.1))/\St B w0 wr (cN kn n X z z.pv (cF kw R m ((bN yR n X.up xv.2.1 xv.2.2.2.1 xv.2.2.1 P1.2.1 z.bb X.hints X.sure z.iA z.ix z.ic z.pv X.turn)::(.own 73 6 (.slice (aD wB 0) 4 c18) 4 ((xv.2.2.2.2.1).flatMap BX.cells))::(oB bB bs)::((rr++eP bs)++xv.2.2.2.2.2))))) (λxv=>4-xv.1) (0,A2,c3,P1.1,bs,[.cZ 1 A2 P1.1.length (byteCells P1.1)]) ?_ ?_ ?_
  ·exact ⟨Nat.zero_le _,rfl,(by rw [hbm];exact anB),(λy hy=>(MH hbc y hy).mono λf hf=>List.mem_append_left _ hf),(Ro.cZ (List.mem_singleton.2 rfl)),qj⟩
  ·exact ⟨rfl,rfl,rfl,rfl,rfl,rfl,rfl,rfl,trivial⟩
  rintro ⟨k,A9,c9,d9,ws,N9⟩ Wp ⟨akH,Pb,TL,aeB,J3,oZ⟩
  try dsimp only at akH Pb TL aeB J3 oZ
  refine bn (l':=[(0,pV kw 0),(1,pV kn 0),(5,.slice (aD bB 0) 4 4),(6,.slice (aD wB 0) 4 c18),(7,pV yR 0),(34,.slice (aD bB 0) 4 4),(35,iV 4),(36,iV ((k:Nat):Int))]) ⟨rfl,rfl,rfl,rfl,rfl,rfl,rfl,rfl,trivial⟩ (aH (aB ?_));by_cases h40:((k:Nat):Int)<4
  ·refine zN 10 ?_;have hk4:k<4:=by omega
   obtain ⟨y,hy,WZ⟩:=Sm hbm hk4;have rA:=MH hbc y (List.mem_of_getElem? hy);obtain ⟨y0,hy0,_⟩:=Sm TL hk4;have hlw:ws.length=4:=by have:=congrArg List.length TL;simpa [vB] using this
   have hvk:=hvv k hk4;have hln:=jS (jf hvk);have xI:y.b.evs.length*48<=reachBytes:=by rw [WZ];unfold reachBytes;omega
   have J7:=vL hvk;refine zN 2 ?_;refine vv (jX k) ?_;refine vv (ah rfl rfl (aA (cs:=BX.cells y) Tryz.underlying73 rfl aC rfl (Rd.uY (St.ord 9 oZ rfl) (λ_ _ h=>bC (enc:=BX.cells) (sz:=6) (λ_=>rfl) hy h)))) ?_;refine fO oZ fM ?_;intro b41 R4 rX;refine zQ ?_;refine stA 0 rX aC ?_;intro NV nI;refine zN 7 ?_;by_cases h46:y.b.role=1
   ·refine zN 7 ?_;obtain ⟨BR,pE⟩: ∃ r,fJ y.b=r:=⟨_,rfl⟩;have HP:=λw h=>U2 y.b.role y.b.ep y.b.fr y.b.tg y.b.rd y.A y.c y.b.evs w h xI;rw [show fJ ⟨y.b.role,y.b.ep,y.b.fr,y.b.tg,y.b.rd,y.b.evs⟩=BR from pE] at HP;refine zN 2 ?_;refine dN arz (HP _ (rA.1.rd nI (memT 11 rfl (λf hf=>List.mem_append_left _ (List.mem_append_right _ hf))))) ?_;rintro _ R7 ⟨KC,Y3,as4,rfl,T52⟩;refine ⟨_,rfl,?_⟩;have uq:=nI.ext T52 rfl;refine zN 3 ?_;refine fO uq fM ?_;intro b53 w54 uK;refine stA 0 uK aC ?_;intro w56 qh;refine zN 7 ?_;refine cab Gt qh (iP 2 k y _) ?_;intro w58 zS;refine fO zS vI ?_;intro b61 Ws u6;refine stA 0 u6 jW ?_;intro WK EP;refine zN 4 ?_;refine vv (v:= .agg #[iV 4,iV 0,iV 0,iV 0,iV 0,iV 0]) fT ?_;refine zQ ?_;refine jk (row':= #[iV 2,iV ((k:Nat):Int),iV y.b.ep,iV 0,iV 4,iV 0,iV 0,iV 0,iV 0,iV 0]) 0 EP iy ?_;intro R6 sI;refine zN 4 ?_;by_cases hB:BR.2=0
    ·rcases aeC:fG d9 P1.2.1 [fU 2 k y.b.ep 0 bJ] with _ | azm
     ·refine zN 5 ?_;refine lJ (V:=λb=> .slice (aD b 0) 1 1) (row:= #[iV 2,iV ((k:Nat):Int),iV y.b.ep,iV 0,iV 4,iV 0,iV 0,iV 0,iV 0,iV 0]) (t:=171) sI (wg rfl rfl rfl rfl) rfl rfl (aV (vs:=[(0,.agg #[iV 2,iV ((k:Nat):Int),iV y.b.ep,iV 0,iV 4,iV 0,iV 0,iV 0,iV 0,iV 0])]) rfl ⟨rfl,rfl,trivial⟩ (by kernel_rfl)) ?_;intro b70 w71 DV;have rY:=DV.dZ [12];refine vY Ey (KW (rs:=[fU 2 k y.b.ep 0 bJ]) aeC (Ro.blk (List.mem_iff_getElem?.2 ⟨0,rfl⟩) rfl rfl) J3 (by exact memT 14 rfl λf hf=>List.mem_append_right _ hf) (Nat.le_of_ble_eq_true rfl) rY) ?_;rintro _ w78 ⟨rfl,Bw⟩;refine ⟨_,rfl,?_⟩;refine zN 13 ?_;have zU:=Bw.aT [14,13,5,4,3,2,1,0];have tK:=(zU).Ot.Ot;have hr1:((cu X.data X.syn) k).role=1:=by rw [<-WZ];omega
      have qd:m.start n=m:=Qo hX (by assumption) (by rw [hP1,Pb,mE hk4];exact adE hr1 (by rw [<-WZ];exact aeC));rw [qd];exact ⟨rfl,Wd.dL (X':=X) (z':=z) (Ls:=[]) (fA:=R.fA) (fc:=R.fc) (fx:=R.fx) (sA:=R.sA) (sc:=R.sc) (tA:=R.tA) (tc:=R.tc) hkn cO hrr G hn tK NG.more (λu hu=> .inl hu) (aJ hX).symm G.fly.symm mI⟩
     refine zN 5 ?_;refine lJ (V:=λb=> .slice (aD b 0) 1 1) (row:= #[iV 2,iV ((k:Nat):Int),iV y.b.ep,iV 0,iV 4,iV 0,iV 0,iV 0,iV 0,iV 0]) (t:=171) sI (wg rfl rfl rfl rfl) rfl rfl (aV (vs:=[(0,.agg #[iV 2,iV ((k:Nat):Int),iV y.b.ep,iV 0,iV 4,iV 0,iV 0,iV 0,iV 0,iV 0])]) rfl ⟨rfl,rfl,trivial⟩ (by kernel_rfl)) ?_;intro b82 w83 DZ;have H7:=DZ.dZ [12];refine vY Ey (KX (rs:=[fU 2 k y.b.ep 0 bJ]) aeC (Ro.blk (List.mem_iff_getElem?.2 ⟨0,rfl⟩) rfl rfl) J3 (by exact memT 14 rfl λf hf=>List.mem_append_right _ hf) (Nat.le_of_ble_eq_true rfl) H7) ?_;rintro _ w90 ⟨A86,c87,N88,rfl,as5,Ky⟩;refine ⟨_,rfl,?_⟩;refine zN 11 ?_;refine vv (jX k) ?_;refine lq (xs':=(ws.set k (⟨BR.1,KC,Y3⟩:BX)).flatMap BX.cells) 13 Ky (wn rfl) rfl rfl rfl rfl rfl rfl aC rfl (bL rfl) (by omega) (by rw [Nat.zero_add];exact pO (enc:=BX.cells) (sz:=6) (λ_=>rfl) (⟨BR.1,KC,Y3⟩:BX) _ _ (by omega)) ?_;intro w92 Bv;have aGu:(ws.set k (⟨BR.1,KC,Y3⟩:BX))[k]? =some (⟨BR.1,KC,Y3⟩:BX):=List.getElem?_set_self (by omega);refine zN 4 ?_;refine vv (v:=iV ((k+1:Nat):Int)) jg ?_;refine zN 2 ?_;have Jv:=Bv.aT [5,3,2,1];have Co:St B w0 w92 (_::_::_::_::_::_::_::_::_::_::((((rr++eP bs)++N9)++N88)++[.cZ 6 KC BR.1.evs.length ((BR.1.evs).flatMap Ev.cells)])):=Jv.toEnd 1 rfl;have D5:=Co.dZ [7,7,7,7,7,7,7];have BF:=D5;have hr1:((cu X.data X.syn) k).role=1:=by rw [<-WZ];omega
     have hap:((((rr++eP bs)++N9)++N88)++[.cZ 6 KC BR.1.evs.length ((BR.1.evs).flatMap Ev.cells)])=((rr++eP bs)++(N9++(N88++[.cZ 6 KC BR.1.evs.length ((BR.1.evs).flatMap Ev.cells)]))):=by simp only [List.append_assoc]
     rw [hap] at BF;refine aU (k+1,A86,c87,azm,ws.set k (⟨BR.1,KC,Y3⟩:BX),N9++(N88++[.cZ 6 KC BR.1.evs.length ((BR.1.evs).flatMap Ev.cells)])) ?_ ⟨rfl,rfl,rfl,rfl,rfl,rfl,rfl,rfl,trivial⟩ (by first | omega | (dsimp only;omega));exact ⟨(by dsimp only;omega),(by dsimp only;rw [Pb,mE hk4];exact ZI hr1 (by rw [<-WZ,pE];exact hB) (by rw [<-WZ];exact aeC)),(by dsimp only;rw [List.map_set,TL];exact ZG hk4 hr1 (by rw [<-WZ,pE])),(Cw (λu hu=>(aeB u hu).mono (λf hf=>(List.mem_append.1 hf).elim (λh=>List.mem_append_left _ h) λh=>List.mem_append_right _ (List.mem_append_left _ h))) ⟨Ro.cZ (List.mem_append_right _ (List.mem_append_right _ (List.mem_append_right _ (List.mem_singleton.2 rfl)))),as4⟩),(as5.mono (λf hf=>(List.mem_append.1 hf).elim (λh=>List.mem_append_left _ h) λh=>List.mem_append_right _ (List.mem_append_left _ h))),BF⟩
    refine zN 20 ?_;have XT:=sI.aT [13,12,11,3,2,1,0];have qR:=(XT).Ot.Ot;have hr1:((cu X.data X.syn) k).role=1:=by rw [<-WZ];omega
    have qd:m.start n=m:=Qo hX (by assumption) (by rw [hP1,Pb,mE hk4];exact adD hr1 (by rw [<-WZ,pE];exact hB));rw [qd];exact ⟨rfl,Wd.dL (X':=X) (z':=z) (Ls:=[]) (fA:=R.fA) (fc:=R.fc) (fx:=R.fx) (sA:=R.sA) (sc:=R.sc) (tA:=R.tA) (tc:=R.tc) hkn cO hrr G hn qR NG.more (λu hu=> .inl hu) (aJ hX).symm G.fly.symm mI⟩
   refine zN 9 ?_;refine vv (v:=iV ((k+1:Nat):Int)) jg ?_;refine zN 2 ?_;have sN:=nI.aT [0];have rG:=sN;have hro: ¬ ((cu X.data X.syn) k).role=1:=by rw [<-WZ];assumption
   refine aU (k+1,A9,c9,d9,ws,N9) ?_ ⟨rfl,rfl,rfl,rfl,rfl,rfl,rfl,rfl,trivial⟩ (by first | omega | (dsimp only;omega));exact ⟨(by dsimp only;omega),(by dsimp only;rw [Pb,mE hk4];exact ZH hro),(by dsimp only;rw [TL];exact ZF hro),aeB,J3,rG⟩
  refine zN 15 ?_;refine jk (row':=dK n true (.slice z.tA X.data.length z.tc) X.syn (.slice (aD z.bb 0) 4 4) X.hints X.sure (.slice z.iA z.ix.length z.ic) (z.pv) X.turn) 0 oZ Gq ?_;intro ayO uT;refine zN 5 ?_;refine dN OJ (mO uT hu) ?_;rintro _ YF ⟨rfl,as6,uR⟩;refine ⟨_,rfl,?_⟩;have uf:=uR.aT [3,2,1];refine zN 6 ?_;refine vv (ah rfl rfl (aA (cs:=[.slice A9 d9.length c9,iV P1.2.1]) Tryz.underlying116 rfl eZ rfl (St.rg 5 uf rfl (qN)))) ?_;have hwA:eT P1.2.1 (cu X.data X.syn) [0,1,2,3] P1.1=some d9:=by rw [Pb,List.drop_eq_nil_of_le (by rw [List.length_range];omega)];rfl
  have Ef:=λw h=>zA (nV A9 d9.length c9 d9 P1.2.1 w h);rw [wV (hmay _ hwA)] at Ef;refine dN OL (Ef _ (J3.rd uf (memT 8 rfl λf hf=>List.mem_append_right _ hf))) ?_;rintro _ YH ⟨Mw,O7,rfl,azn⟩;refine ⟨_,rfl,?_⟩;have uS:=uf.ext azn rfl;refine zN 5 ?_;refine jk (row':=dK n true (.slice Mw d9.length O7) ((d9.length:Nat):Int) (.slice (aD as6 0) 4 4) (λ_=>nowhere) (λ_=>false) (.slice none 0 0) (.nilFunc) X.turn) 1 uS eZ ?_;intro ajJ qm;refine zN 8 ?_;refine jk (row':=dK n true (.slice Mw d9.length O7) ((d9.length:Nat):Int) (.slice (aD bB 0) 4 4) (λ_=>nowhere) (λ_=>false) (.slice none 0 0) (.nilFunc) X.turn) 1 qm SE ?_;intro aqi yM;refine zN 10 ?_;have hwA:eT P1.2.1 (cu X.data X.syn) [0,1,2,3] P1.1=some d9:=by rw [Pb,List.drop_eq_nil_of_le (by rw [List.length_range];omega)];rfl
  have azo:k=4:=by omega
  have hsp:=TL;rw [azo] at hsp;have uQ:=yM.aT [6];have rJ:=uQ.AL 146 23;have pR:=(((((((((rJ.bring 7 rfl).bring 2 rfl).bring 7 rfl).bring 7 rfl).bring 7 rfl).bring 7 rfl).bring 6 rfl).bring 8 rfl).bring 8 rfl);rw [show ((rr++eP bs)++N9)=(rr++(eP bs++N9)) from List.append_assoc ..] at pR;obtain ⟨m1,hm1⟩: ∃ k,k=m.put n { X.blank with up:=true,data:=d9,syn:=((d9.length:Nat):Int),bs:=(cu X.data X.syn) }:=⟨_,rfl⟩;have HW1:Wd K B w0 aqi ((.own 73 6 (.slice (aD wB 0) 4 c18) 4 ((ws).flatMap BX.cells))::fs) m1 (hwl ws++H):=by
   rw [hm1];refine Wd.fin (m:=m) (fs:=(.own 73 6 (.slice (aD wB 0) 4 c18) 4 ((ws).flatMap BX.cells))::fs) (X':={ X.blank with up:=true,data:=d9,syn:=((d9.length:Nat):Int),bs:=(cu X.data X.syn) }) (z':={ bb:=bB,tA:=Mw,tc:=O7,bx:=bs,iA:=none,ic:=0,ix:=[],pv:= .nilFunc }) (N:=eP bs++N9) (Ls:=[.cZ 1 Mw d9.length (byteCells d9)]) (rr:=(.own 73 6 (.slice (aD wB 0) 4 c18) 4 ((ws).flatMap BX.cells))::rr) (H:=H) (fA:=R.fA) (fc:=R.fc) (fx:=R.fx) (sA:=R.sA) (sc:=R.sc) (tA:=R.tA) (tc:=R.tc) hkn cO (by rw [<-hrr];rfl) G hn pR ⟨hbm,λu hu=>(MH hbc u hu).mono (λf hf=>azh hf),Ro.cZ (qO (List.mem_singleton.2 rfl)),rfl,λu hu=>by simp at hu,rfl⟩ (λu hu=> .inl hu) rfl G.fly.symm ?_;exact ahz λy hy=>(aeB y hy).mono λf hf=>azi hf
  have hwo:=ZJ hwA;have aqs:m1.au n={ X.blank with up:=true,data:=d9,syn:=((d9.length:Nat):Int),bs:=(cu X.data X.syn) }:=by rw [hm1];exact bV _
  refine eD (X:=Nat×Cl) (λxv=>[(0,pV kw 0),(1,pV kn 0),(85,.slice (aD wB 0) 4 c18),(86,iV 4),(87,iV ((xv.1:Nat):Int))]) (λxv wr=>(Wd K B w0 wr ((.own 73 6 (.slice (aD wB 0) 4 c18) 4 ((ws).flatMap BX.cells))::fs) xv.2 (hwl ws++H))/\(Cl.woken n (cu X.data X.syn) [0,1,2,3] m1=Cl.woken n (cu X.data X.syn) ((List.range 4).drop xv.1) xv.2)/\(xv.1<=4)/\(xv.2.fly=m.fly)/\(∀ j,j<4->aj ((xv.2.au n).bs j)=0)/\(∀ j,xv.1<=j->j<4->(xv.2.au n).bs j=(cu X.data X.syn) j)/\(∀ a b,0<=(xv.2.shown a b).2)/\(xv.2.aP.length<=m.aP.length+2001*xv.1)/\St B w0 wr [.own 73 6 (.slice (aD wB 0) 4 c18) 4 ((ws).flatMap BX.cells)]) (λxv=>4-xv.1) (0,m1) ?_ ?_ ?_
  ·exact ⟨HW1,rfl,Nat.zero_le _,by rw [hm1];rfl,λj hj=>by dsimp only;rw [aqs];exact hvv j hj,λj _ _=>by dsimp only;rw [aqs],λa b=>by dsimp only;rw [hm1];exact hsh a b,by dsimp only;rw [hm1];exact Nat.le_refl _,Wd.vo (gs:=[.own 73 6 (.slice (aD wB 0) 4 c18) 4 ((ws).flatMap BX.cells)]) HW1⟩
  ·exact ⟨rfl,rfl,rfl,rfl,rfl,trivial⟩
  rintro ⟨k2,mm⟩ YN ⟨aaM,TM,as7,TN,Kt,TP,TQ,as8,Bh⟩
  try dsimp only at aaM TM as7 TN Kt TP TQ as8 Bh
  refine bn (l':=[(0,pV kw 0),(1,pV kn 0),(85,.slice (aD wB 0) 4 c18),(86,iV 4),(87,iV ((k2:Nat):Int))]) ⟨rfl,rfl,rfl,rfl,rfl,trivial⟩ ?_;obtain ⟨R3,G3,Sn⟩:=aaM.open hn;have Qp:=G3.lW n hn;obtain ⟨X3,Ai⟩: ∃ X,mm.au n=X:=⟨_,rfl⟩;obtain ⟨z3,hz3⟩: ∃ z,R3.nx n=z:=⟨_,rfl⟩;rw [Ai,hz3] at Sn Qp;obtain ⟨W9,G7⟩: ∃ r,fP K R3 mm fs n=r:=⟨_,rfl⟩;have aGv:R3.fx.length=mm.fly.length:=by rw [<-G3.fly,List.length_map]
  have xD:St B w0 YN (cN kn n X3 z3 z3.pv (cF kw R3 mm ((.own 73 6 (.slice (aD wB 0) 4 c18) 4 ((ws).flatMap BX.cells))::W9))):=by rw [<-G7];subst hkn;subst cO;exact Sn
  clear Sn;have hlen3:=(xD.own 1 rfl).1;rw [gX (sz:=6) (λ_=>rfl)] at hlen3;rw [Ai] at Kt TP;refine zN 2 ?_;by_cases aGw:((k2:Nat):Int)<4
  ·refine zN 10 ?_;have hk4:k2<4:=by omega
   obtain ⟨x,hx,hxs⟩:=Sm hsp hk4;refine zN 2 ?_;refine vv (jX k2) ?_;refine vv (ah rfl rfl (aA (cs:=BX.cells x) Tryz.underlying73 rfl aC rfl (Rd.uY (St.ord 7 xD rfl) (λ_ _ h=>bC (enc:=BX.cells) (sz:=6) (λ_=>rfl) hx h)))) ?_;refine fO xD fM ?_;intro akI ajN EO;refine zQ ?_;refine sa 0 EO aC ?_;intro Yt Db;refine zN 7 ?_;by_cases aGx:x.b.role=1
   ·refine zN 11 ?_;have EN:=Db.dZ [7,7,7,7,7,7,7];have as9:=Wd.dL (m:=mm) (m':=mm) (H:=hwl ws++H) (H':=hwl ws++H) (fs:=(.blk akI (bR x.b x.A x.c) 73)::(.own 73 6 (.slice (aD wB 0) 4 c18) 4 ((ws).flatMap BX.cells))::fs) (X':=X3) (z':=z3) (Ls:=[]) (fA:=R3.fA) (fc:=R3.fc) (fx:=R3.fx) (sA:=R3.sA) (sc:=R3.sc) (tA:=R3.tA) (tc:=R3.tc) (rr:=(.blk akI (bR x.b x.A x.c) 73)::(.own 73 6 (.slice (aD wB 0) 4 c18) 4 ((ws).flatMap BX.cells))::W9) hkn cO (by rw [<-G7];rfl) G3 hn EN Qp.more (λu hu=> .inl hu) (aJ Ai).symm G3.fly.symm mI;refine dN arA (Ia hn hkn cO hu (by rw [TN];exact hB1) (by omega) hk4 as9 (by rw [Ai];exact Kt) (TQ n k2)) ?_;rintro _ azp ⟨rfl,ai4⟩;refine ⟨_,rfl,?_⟩;have Le:=Ei mm n k2 (TQ);have hrs:=(Ea (n:=n) (q:=k2) mm (by rw [Ai];exact jS (jf (Kt k2 hk4)))).2;obtain ⟨mc,hmc⟩: ∃ k,k=mm.recover n k2:=⟨_,rfl⟩;rw [<-hmc] at ai4 Le hrs;obtain ⟨R5,G5,S05⟩:=ai4.open hn;have NG5:=G5.lW n hn;obtain ⟨X5,hX5⟩: ∃ X,mc.au n=X:=⟨_,rfl⟩;obtain ⟨z5,hz5⟩: ∃ z,R5.nx n=z:=⟨_,rfl⟩;rw [hX5,hz5] at S05 NG5;obtain ⟨rr5,aqt⟩: ∃ r,fP K R5 mc fs n=r:=⟨_,rfl⟩;have aGy:R5.fx.length=mc.fly.length:=by rw [<-G5.fly,List.length_map]
    have Td:St B w0 azp (cN kn n X5 z5 z5.pv (cF kw R5 mc ((.blk akI (bR x.b x.A x.c) 73)::(.own 73 6 (.slice (aD wB 0) 4 c18) 4 ((ws).flatMap BX.cells))::rr5))):=by rw [<-aqt];subst hkn;subst cO;exact S05
    clear S05;have ata:=(Td.own 1 rfl).1;rw [gX (sz:=6) (λ_=>rfl)] at ata;obtain ⟨y5,hy5,aGz,aGA⟩:=NG5.at_ hk4;refine zN 3 ?_;have TR:=Td.drew;refine fq 8 6 TR [] ?_;iterate 6 refine gK ?_
    refine eG (by kernel_rfl) rfl rfl rfl ?_;refine vv (jX k2) ?_;refine lq (xs':=(z5.bx.set k2 (⟨x.b,x.A,x.c⟩:BX)).flatMap BX.cells) 1 TR (wn rfl) rfl rfl rfl rfl rfl rfl aC rfl (bL rfl) (by omega) (by rw [Nat.zero_add];exact pO (enc:=BX.cells) (sz:=6) (λ_=>rfl) (⟨x.b,x.A,x.c⟩:BX) _ _ (by omega)) ?_;intro azq GI;have hy153:(z5.bx.set k2 (⟨x.b,x.A,x.c⟩:BX))[k2]? =some (⟨x.b,x.A,x.c⟩:BX):=List.getElem?_set_self (by omega);refine zQ ?_;refine iK ?_;refine zN 5 ?_;refine vv (v:= .agg #[iV 4,iV 0,iV 0,iV 0,iV 0,iV 0]) fT ?_;refine zQ ?_;refine dN F8 (mM hn hk4 hy153 bJ gV (-1) GI (by omega)) ?_;rintro _ azr ⟨rfl,azs,azt,aCU,atb,azu⟩;refine ⟨_,rfl,?_⟩;subst atb;have L6:=azu.aT [7];have hr1:((cu X.data X.syn) k2).role=1:=adG hxs (by omega);have hxb:x.b=nS ((cu X.data X.syn) k2):=by rw [hxs,if_pos ⟨hk4,hr1⟩,(hwo k2 hk4 hr1).2]
    obtain ⟨md,hmd⟩: ∃ k,k=(mc.cK n k2 x.b).tell n k2 bJ gV (-1):=⟨_,rfl⟩;have azv:md=((mm.recover n k2).cK n k2 (fJ ((cu X.data X.syn) k2)).1).tell n k2 bJ gV (-1):=by rw [hmd,hmc,hxb,(hwo k2 hk4 hr1).2]
    have ZM:md={ mc.put n (X5.cK k2 x.b) with aP:=mc.aP++[⟨n,k2,x.b.ep,bJ,gV,-1⟩],shown:=nQ mc.shown n k2 (x.b.ep,(x.b.evs.length:Int)) }:=by rw [hmd];exact ZK hX5
    have azw:md.fly=mm.fly:=by rw [ZM];exact Le.2.1
    have hnm:(mc.au n)=X3:=by rw [Le.1,Ai]
    have aqu:X5=X3:=by rw [<-hX5];exact hnm
    have aqv:md.au n=X5.cK k2 x.b:=by rw [ZM];exact bV _
    have azx: ∀ j,j<4->aj ((md.au n).bs j)=0:=λj hj=>by rw [aqv];exact ahy (by rw [aqu];exact Kt) (by rw [hxb];exact (hwo k2 hk4 hr1).1) j hj
    have azy: ∀ j,k2+1<=j->j<4->(md.au n).bs j=(cu X.data X.syn) j:=λj h1 h2=>by rw [aqv,aqu];exact (upd_ne (by omega)).trans (TP j (by omega) h2)
    have azz: ∀ a b,0<=(md.shown a b).2:=by rw [ZM];exact G6 (a:=n) (q:=k2) (e:=x.b.ep) (l:=x.b.evs) Le.2.2
    have aGB:md.aP.length=mc.aP.length+1:=by rw [ZM];exact List.length_append ..
    clear hmd;have ai5:Wd K B w0 azr ((.own 73 6 (.slice (aD wB 0) 4 c18) 4 ((ws).flatMap BX.cells))::fs) md (hwl ws++H):=by
     rw [ZM];exact Wd.dL (m:=mc) (H:=hwl ws++H) (fs:=(.own 73 6 (.slice (aD wB 0) 4 c18) 4 ((ws).flatMap BX.cells))::fs) (X':=X5.cK k2 x.b) (z':={ z5 with bx:=z5.bx.set k2 (⟨x.b,x.A,x.c⟩:BX) }) (Ls:=[]) (fA:=R5.fA) (fc:=R5.fc) (fx:=R5.fx) (sA:=azs) (sc:=azt) (tA:=R5.tA) (tc:=R5.tc) (rr:=(.own 73 6 (.slice (aD wB 0) 4 c18) 4 ((ws).flatMap BX.cells))::rr5) hkn cO (by rw [<-aqt];rfl) G5 hn L6 (dS.ai2 (Y:=x) NG5.more hk4 (anC G5.hld hx).more) (λu hu=> .inl hu) rfl G5.fly.symm mI
    refine zN 4 ?_;refine vv (v:=iV ((k2+1:Nat):Int)) jg ?_;refine zN 2 ?_;refine aU (k2+1,md) ?_ ⟨rfl,rfl,rfl,rfl,rfl,trivial⟩ (by first | omega | (dsimp only;omega));exact ⟨ai5,(by dsimp only;rw [TM,mE hk4];exact Vs hr1 azv),(by dsimp only;omega),(by dsimp only;rw [azw];exact TN),(by dsimp only;exact azx),(by dsimp only;exact azy),(by dsimp only;exact azz),(by dsimp only;omega),(Wd.vo (gs:=[.own 73 6 (.slice (aD wB 0) 4 c18) 4 ((ws).flatMap BX.cells)]) ai5)⟩
   refine zN 9 ?_;refine vv (v:=iV ((k2+1:Nat):Int)) jg ?_;refine zN 2 ?_;have GJ:=Db.aT [0];have TS:=Wd.dL (m:=mm) (m':=mm) (H:=hwl ws++H) (H':=hwl ws++H) (fs:=(.own 73 6 (.slice (aD wB 0) 4 c18) 4 ((ws).flatMap BX.cells))::fs) (X':=X3) (z':=z3) (Ls:=[]) (fA:=R3.fA) (fc:=R3.fc) (fx:=R3.fx) (sA:=R3.sA) (sc:=R3.sc) (tA:=R3.tA) (tc:=R3.tc) (rr:=(.own 73 6 (.slice (aD wB 0) 4 c18) 4 ((ws).flatMap BX.cells))::W9) hkn cO (by rw [<-G7];rfl) G3 hn GJ Qp.more (λu hu=> .inl hu) (aJ Ai).symm G3.fly.symm mI;have hro: ¬ ((cu X.data X.syn) k2).role=1:=adF (hwo k2 hk4) hxs (by assumption);refine aU (k2+1,mm) ?_ ⟨rfl,rfl,rfl,rfl,rfl,trivial⟩ (by first | omega | (dsimp only;omega));exact ⟨TS,(by dsimp only;rw [TM,mE hk4];exact Vr hro),(by dsimp only;omega),TN,(by dsimp only;rw [Ai];exact Kt),(by dsimp only;rw [Ai];exact λj h1 h2=>TP j (by omega) h2),TQ,(by dsimp only;omega),(Wd.vo (gs:=[.own 73 6 (.slice (aD wB 0) 4 c18) 4 ((ws).flatMap BX.cells)]) TS)⟩
  refine zN 10 ?_;have qd:m.start n=mm:=by rw [ZL hX (by assumption) (by rw [hP1];exact hwA),<-hm1,TM,List.drop_eq_nil_of_le (by rw [List.length_range];omega)];rfl
  rw [qd];exact ⟨rfl,adI (Wd.less (gs:=[.own 73 6 (.slice (aD wB 0) 4 c18) 4 ((ws).flatMap BX.cells)]) aaM)⟩
 refine bn (l':=[(0,pV kw 0),(1,pV kn 0),(18,.bool true)]) ⟨rfl,rfl,rfl,trivial⟩ (iT rfl (nG (gT (dR (rs:=[]) (vs:=[]) rfl trivial ?_))));have qd:m.start n=m:=adH (by rw [hX];assumption);rw [qd];exact ⟨rfl,Wd.dL (X':=X) (z':=z) (Ls:=[]) (fA:=R.fA) (fc:=R.fc) (fx:=R.fx) (sA:=R.sA) (sc:=R.sc) (tA:=R.tA) (tc:=R.tc) hkn cO hrr G hn S NG.more (λu hu=> .inl hu) (aJ hX).symm G.fly.symm mI⟩
section
variable {X:Nd} {m:Cl} {n k q:Nat} {p:gI}
theorem EY.nN (h:EY X): ∀ q,q<4->aj (X.bs q)=0:=by
 rcases h with ⟨_,rs,us,h⟩ | ⟨_,rs,t,f,h⟩
 ·exact h.nN
 exact h.bz
theorem EY.tp (h:EY X): ∃ rs t f,X.data=dx rs++t/\(firstM t).2=0/\iw rs f/\(∀ q,q<4->aj (f q)=0)/\X.data.length<=100000/\0<=X.syn/\X.syn<=X.data.length:=by
 rcases h with ⟨_,rs,us,h⟩ | ⟨_,rs,t,f,h⟩
 ·have hd:=h.data;have hl:=congrArg List.length hd;rw [kY,List.length_append] at hl;have hs:=h.syn
  cases hp:X.pend with
  | none=>
   have hu:=h.Za hp;refine ⟨rs,[],_,by rw [hd,hu,List.append_nil,List.append_nil],wD,h.tape,λq hq=>(Sg h.nN hq).1,h.len,by omega,by omega⟩
  | some p=>
   obtain ⟨h1,h2,h3⟩:=h.WS p hp;obtain ⟨h4,h5⟩:=sZ h.tape h.nN h2 h3;rw [<-h1] at h4;refine ⟨rs++us,[],_,by rw [hd,List.append_nil],wD,h4,λq hq=>?_,h.len,by omega,by omega⟩;refine sS ?_;by_cases e:q=p.q
   ·rw [e,upd_same];exact h5
   rw [upd_ne e];exact h.nN q hq
 exact ⟨rs,t,f,h.data,h.apG,h.tape,λq hq=>(h.nN q hq).1,h.len,h.syn.1,h.syn.2⟩
theorem EY.may (h:EY X):dz X.data X.syn=true:=by
 obtain ⟨rs,t,f,_,_,_,_,h1,h2,h3⟩:=h.tp;simp only [dz,Bool.and_eq_true,decide_eq_true_eq];exact ⟨⟨h1,h2⟩,h3⟩
theorem EY.azA (h:EY X) {rs:List dM} {d:List UInt8} (hw:fG X.data X.syn rs=some d):dz d X.syn=true:=by
 obtain ⟨_,_,_,_,_,_,_,h1,h2,h3⟩:=h.tp;obtain ⟨w1,_,w3⟩:=vO hw;have:=w3 h1;have hl:=congrArg List.length w1;rw [List.length_append] at hl;simp only [dz,Bool.and_eq_true,decide_eq_true_eq];omega
theorem EY.fit (h:EY X) (hp:X.pend=some p):p.fit/\dz X.data X.syn=true:=by
 refine ⟨?_,h.may⟩
 rcases h with ⟨_,rs,us,h⟩ | ⟨_,rs,t,f,h⟩
 ·obtain ⟨h1,h2,h3⟩:=h.WS p hp;obtain ⟨h4,h5⟩:=sZ h.tape h.nN h2 h3
  cases p with
  | serve q evs op num a=>exact ⟨h3,jS h2.2.2.2⟩
  | begun q b=>exact h3
  | got q b last=>exact h3
  | iZ q b at_=>exact ⟨h3,h5⟩
  | forget q b=>exact h3
 rw [h.qY] at hp;cases hp
theorem Nh {s:Int} {f:Nat->bI}: ∀ (ql:List Nat) {d d':List UInt8},eT s f ql d=some d'->d.length<=d'.length/\(d.length<=100000->d'.length<=100000)
 | [],d,d',h=>by cases h;exact ⟨Nat.le_refl _,id⟩
 | q::r,d,d',h=>by
  rw [eT] at h
  split at h
  ·exact Nh r h
  split at h
  ·cases h
  split at h
  ·cases h
  rename_i d2 hw
  obtain ⟨w1,_,w3⟩:=vO hw;obtain ⟨h1,h2⟩:=Nh r h;rw [w1,List.length_append] at h1;exact ⟨by omega,λh0=>h2 (w3 h0)⟩
theorem Xa: ∀ (rs:List dM),6*rs.length<=(dx rs).length
 | []=>by simp [dx]
 | r::rs=>by
  have h1:=(Pz r).1;have h2:=Xa rs;have e:dx (r::rs)=mV r++dx rs:=by simp [dx,List.flatMap_cons]
  rw [e,List.length_append,List.length_cons];omega
theorem EY.OB (h:EY X):Bl X.data X.syn=some (vB (cu X.data X.syn))/\(∀ q,q<4->aj (cu X.data X.syn q)=0)/\(sJ (jw X.data X.syn).1 (jw X.data X.syn).2.1).1.length*80<=reachBytes/\
  (∀ d,eT (jw X.data X.syn).2.1 (cu X.data X.syn) [0,1,2,3] (jw X.data X.syn).1=some d->dz d (jw X.data X.syn).2.1=true):=by
 obtain ⟨rs,t,f,hd,ht,hT,hb,h1,h2,h3⟩:=h.tp;obtain ⟨r1,r2,r3⟩:=hT.read hd ht h1 h2 h3;have hl:(dx rs).length<=X.data.length:=by rw [hd,List.length_append];omega
 have hg:=Xa rs;refine ⟨by rw [r2,yX λq hq=>(r3 q hq).symm],λq hq=>by rw [r3 q hq];exact hb q hq,?_,λd hw=>?_⟩
 ·rw [r1];unfold sJ;rw [if_pos (by simp [dz];omega)];have:=xw (t:=[]) hT.1 wD;rw [List.append_nil] at this;dsimp only;rw [this];unfold reachBytes;dsimp only;omega
 rw [r1] at hw⊢;obtain ⟨g1,g2⟩:=Nh _ hw;dsimp only at g1 g2 hw⊢;have g3:=g2 (by omega);simp only [dz,Bool.and_eq_true,decide_eq_true_eq];omega
theorem lZ.tgt {l:iJ} (h:lZ l): ∃ j,j<5/\(l.tg= -1\/l.tg= -2\/l.tg=((j:Nat):Int)):=by
 obtain ⟨_,_,h1 | h1 | h1,_⟩:=h
 ·exact ⟨0,by omega,.inl h1⟩
 ·exact ⟨0,by omega,.inr (.inl h1.1)⟩
 exact ⟨l.tg.toNat,by omega,.inr (.inr (by omega))⟩
theorem fQ.fl {T S D K:Nat} (h:fQ m T S D K):m.fly.length<=T:=by
 have:=Ms m (n:=0) (by omega);have:=h.room;omega
theorem fQ.il {T S D K:Nat} (h:fQ m T S D K) (hn:n<5):(m.au n).inbox.length<=T:=by
 have:=Ms m hn;have:=h.room;omega
theorem fQ.fi {T S D K:Nat} (h:fQ m T S D K) (hn:n<5):m.fly.length+(m.au n).inbox.length<=T:=by
 have:=Ms m hn;have:=h.room;omega
end
def ShN (m:Cl):Prop:= ∀ a b,0<=(m.shown a b).2
section
variable {m m':Cl} {n q:Nat} {l:iJ}
theorem ShN.of (h:ShN m) (e:m'.shown=m.shown):ShN m':=λa b=>by rw [e];exact h a b
theorem ShN.tell {e:Ev} {a:iH} {u:Int} (h:ShN m):ShN (m.tell n q e a u):=G6 h
theorem ShN.done {op:Ev} {u:Int} {a:iH} (h:ShN m):ShN (m.done n q op u a):=by
 unfold Cl.done
 split
 ·exact (h.tell (n:=n) (q:=q) (e:=op) (a:=a) (u:=u)).of rfl
 exact h.of rfl
theorem ShN.part {a:Int} (h:ShN m):ShN (m.part n q a):=by
 unfold Cl.part
 split
 ·exact h
 exact h.of rfl
theorem ShN.serve (h:ShN m):ShN (m.serve n l):=by
 unfold Cl.serve
 split
 ·exact h.done
 split
 ·exact h.done
 exact h.of rfl
theorem ShN.handle (h:ShN m):ShN (m.handle n l):=by
 unfold Cl.handle
 split
 ·exact h.serve
 split
 ·unfold Cl.offered
  split
  ·exact h
  split
  ·exact h.of rfl
  split
  ·exact h
  exact h.of rfl
 split
 ·unfold Cl.caught
  split
  ·exact h
  split
  ·exact h
  split
  ·exact ShN.part (h.of rfl)
  split
  ·exact h
  exact h.of rfl
 split
 ·unfold Cl.got
  split
  ·exact h
  split
  ·exact h.of rfl
  split
  ·exact h
  split
  ·exact h
  exact h.of rfl
 unfold Cl.learnt
 split
 ·exact h.of rfl
 split
 ·exact h.of rfl
 exact h.of rfl
theorem ShN.drain: ∀ (ls:List iJ) {m:Cl},ShN m->ShN (Cl.drain n ls m)
 | [],m,h=>h
 | l::r,m,h=>by
  rw [Cl.drain];have h1:ShN ((m.put n { m.au n with inbox:=r }).handle n l):=ShN.handle (h.of rfl)
  split
  ·exact ShN.drain r h1
  exact h1
theorem ShN.sj {p:gI} (h:ShN m):ShN (m.sj n p):=by
 cases p with
 | serve q evs op num a=>exact ShN.done (h.of rfl)
 | begun q b=>exact h.of rfl
 | got q b last=>
  unfold Cl.sj;dsimp only
  split
  ·exact ShN.tell (h.of rfl)
  exact h.of rfl
 | iZ q b a=>exact ShN.part (h.of rfl)
 | forget q b=>exact h.of rfl
theorem ShN.step (h:ShN m):ShN (m.step n):=by
 unfold Cl.step
 split
 ·exact h
 split
 ·exact ShN.sj (h.of rfl)
 split
 ·exact (h.drain _).of rfl
 exact h.drain _
theorem ShN.come (h:ShN m):ShN (m.come l):=by
 unfold Cl.come
 split
 ·exact h.of rfl
 split
 ·split<;>exact h.of rfl
 split
 ·exact h.of rfl
 exact h
theorem ShN.comes: ∀ (ls:List iJ) {m:Cl},ShN m->ShN (ls.foldl Cl.come m)
 | [],_,h=>h
 | _::ls,_,h=>ShN.comes ls h.come
theorem ShN.recover (h:ShN m):ShN (m.recover n q):=(Ei m n q h).2.2
theorem ShN.woken {bs:Nat->bI}: ∀ (ql:List Nat) {m:Cl},ShN m->ShN (Cl.woken n bs ql m)
 | [],_,h=>h
 | q::r,m,h=>by
  rw [Cl.woken]
  split
  ·exact ShN.woken r h
  exact ShN.woken r (ShN.tell ((h.recover (n:=n) (q:=q)).of rfl))
theorem ShN.act {a:Ac} (h:ShN m):ShN (m.act a):=by
 unfold Cl.act
 split
 ·unfold Cl.make
  split
  ·exact h
  split
  ·exact h
  split
  ·exact h
  exact G6 (l:=[]) h
 split
 ·exact h.of rfl
 split
 ·exact h.step
 split
 ·unfold Cl.pick
  split
  ·exact h
  dsimp only
  split
  ·refine ShN.come ?_
   split
   ·exact h
   exact h.of rfl
  split
  ·exact h
  exact h.of rfl
 split
 ·exact ShN.comes _ (h.of rfl)
 split
 ·unfold Cl.crash
  split
  ·exact h.of rfl
  exact h
 split
 ·unfold Cl.start
  split
  ·exact h
  split
  ·exact h
  exact ShN.woken _ (h.of rfl)
 unfold Cl.move
 split
 ·exact h
 split
 ·exact h.of rfl
 exact h
end
section
variable {m:Cl} {n:Nat} {X:Nd} {l:iJ} {PW:Pl×Int}
theorem adJ (h:l.tg= -1):m.come l={ m with aZ:=m.aZ++[l.aZ] }:=if_pos h
theorem qB (h:l.tg= -2) (hP:bO (gu m.off l) l.q=PW) (h2:PW.2=0):m.come l={ m with off:=gu m.off l,fly:=m.fly++[oQ l.fr l.q PW.1] }:=by
 unfold Cl.come;rw [if_neg (by omega),if_pos h,hP,if_pos h2]
theorem qC (h:l.tg= -2) (hP:bO (gu m.off l) l.q=PW) (h2: ¬ PW.2=0):m.come l={ m with off:=gu m.off l }:=by
 unfold Cl.come;rw [if_neg (by omega),if_pos h,hP,if_neg h2]
theorem ZN (h:l.tg=((n:Nat):Int)) (hX:m.au n=X) (hu:X.up=true):m.come l=m.put n (X.box (X.inbox++[l])):=by
 subst hX;unfold Cl.come;rw [if_neg (by omega),if_neg (by omega),h,Int.toNat_natCast,if_pos hu];rfl
theorem ZO (h:l.tg=((n:Nat):Int)) (hX:m.au n=X) (hu:X.up=false):m.come l=m:=by
 subst hX;unfold Cl.come;rw [if_neg (by omega),if_neg (by omega),h,Int.toNat_natCast,if_neg (by rw [hu];simp)]
theorem dS.atc {K:CK} {L:List Fact} {c:Nat} {z:NX} {A:Option Addr} {x:LX} (h:dS K L n X z) (hx:Oo L x):dS K L n (X.box (X.inbox++[x.l])) { z with iA:=A,ic:=c,ix:=z.ix++[x] }:=
 ⟨h.Oq,h.Qb,h.wM,by rw [List.map_append,h.YV];rfl,λu hu=>(List.mem_append.1 hu).elim (h.YW u) λe=>by rw [List.mem_singleton] at e;subst e;exact hx,h.qY⟩
end
theorem BS {K:CK} {B n kn kw:Nat} {w0 w:World} {fs:List Fact} {m:Cl} {H:List LX} {x:LX} (hn:n<5) (hkn:K.nb n=kn) (cO:K.wb=kw) (hu:Uk B w0) (hB1:m.fly.length<=1000000000) (hB2:m.aZ.length<=1000000000000) (hB3:(m.au n).inbox.length<=1000000000) (HW:Wd K B w0 w fs m (x::H)) (uy:x.l.tg= -1\/x.l.tg= -2\/x.l.tg=((n:Nat):Int)):
    Calls Tryz.prog 56 #[.pointer (some ⟨kw,0,none⟩),.agg (LX.row x)] w (λe w'=>e= .returned (.tuple #[])/\Wd K B w0 w' fs (m.come x.l) H):=by
 obtain ⟨R,G,S0⟩:=HW.open hn;have hfl:R.fx.length=m.fly.length:=by rw [<-G.fly,List.length_map]
 have NG:=G.lW n hn;obtain ⟨X,hX⟩: ∃ X,m.au n=X:=⟨_,rfl⟩;obtain ⟨z,hz⟩: ∃ z,R.nx n=z:=⟨_,rfl⟩;rw [hX,hz] at S0 NG;have hL: ∀ f∈R.L,f∈fP K R m fs n:=λf h=>List.mem_append_right _ (List.mem_append_right _ h);obtain ⟨rr,hrr⟩: ∃ r,fP K R m fs n=r:=⟨_,rfl⟩;rw [hrr] at S0 hL;have S:St B w0 w ((.blk kn (dK n X.up (.slice z.tA X.data.length z.tc) X.syn (.slice (some ⟨z.bb,0,none⟩) 4 4) X.hints X.sure (.slice z.iA z.ix.length z.ic) (z.pv) X.turn) 120)::(.own 73 6 (.slice (some ⟨z.bb,0,none⟩) 4 4) 4 ((z.bx).flatMap BX.cells))::(fL z.iA z.ix z.ic)::(bW kw (.slice R.nA 5 R.nc) m.off R.fA R.fx R.fc m.shown R.sA m.aP R.sc R.tA m.aZ R.tc m.calls)::(oL R.fA R.fx R.fc)::(oS R.sA m.aP R.sc)::(oT R.tA m.aZ R.tc)::rr):=by subst hkn;subst cO;exact S0
 clear S0 HW;have hlen:=(S.own 1 rfl).1;rw [gX (sz:=6) (λ_=>rfl)] at hlen;obtain ⟨ab,ao,pX⟩:=Ag G.arr S (memT 7 rfl hL);have harr:=G.arr;rw [pX] at S harr;have aGC:z.ix.length<=1000000000:=by have:=congrArg List.length NG.YV;rw [List.length_map] at this;rw [hX] at hB3;omega
 refine gy 106 Tryz.func56 ?_;refine cw [0,1] ?_;refine zN 2 ?_;refine iC S ?_;intro b1 w2 S3;refine zN 4 ?_
 rcases uy with uy | uy | uy
 ·refine zN 8 ?_;have S4:=S3.drew;refine fq 14 10 S4 [7] ?_;iterate 5 refine gK ?_
  refine gk (v:= .slice R.tA m.aZ.length R.tc) 5 rfl (St.del 7 S4) (λ_ azB=>(ah rfl rfl (av Tryz.underlying33 rfl (St.cl 4 azB rfl asD)))) ?_;refine gK ?_;refine gk (v:= .agg #[iV x.l.aZ.num,iV x.l.aZ.ans.code,iV x.l.aZ.ans.dQ,iV x.l.aZ.ans.hno,iV x.l.aZ.ans.body,iV x.l.aZ.pl.node,iV x.l.aZ.pl.epoch]) 7 rfl (St.del 7 S4) (λ_ akJ=>(ah rfl rfl (aA (cs:=[iV x.l.aZ.num,iV x.l.aZ.ans.code,iV x.l.aZ.ans.dQ,iV x.l.aZ.ans.hno,iV x.l.aZ.ans.body,iV x.l.aZ.pl.node,iV x.l.aZ.pl.epoch]) Tryz.underlying81 rfl Kj rfl (St.rg 0 akJ rfl (am8))))) ?_;refine eH (m:=5) (r:=8) (by kernel_rfl) ?_;refine lK (i:=8) rfl rfl (V:=λb=> .slice (some ⟨b,0,none⟩) 1 1) (row:= #[iV x.l.aZ.num,iV x.l.aZ.ans.code,iV x.l.aZ.ans.dQ,iV x.l.aZ.ans.hno,iV x.l.aZ.ans.body,iV x.l.aZ.pl.node,iV x.l.aZ.pl.epoch]) (t:=81) S4 (wn rfl) rfl rfl (aV (vs:=[(0,.agg #[iV x.l.aZ.num,iV x.l.aZ.ans.code,iV x.l.aZ.ans.dQ,iV x.l.aZ.ans.hno,iV x.l.aZ.ans.body,iV x.l.aZ.pl.node,iV x.l.aZ.pl.epoch])]) rfl ⟨rfl,rfl,trivial⟩ (by kernel_rfl)) ?_;intro b13 HY gZ;refine gK ?_;refine eH (m:=4) (r:=9) (by kernel_rfl) ?_;refine kJ (i:=9) rfl rfl (news:=[iV x.l.aZ.num,iV x.l.aZ.ans.code,iV x.l.aZ.ans.dQ,iV x.l.aZ.ans.hno,iV x.l.aZ.ans.body,iV x.l.aZ.pl.node,iV x.l.aZ.pl.epoch]) (xs':=(m.aZ++[x.l.aZ]).flatMap sO.cells) 8 gZ (wn rfl) rfl rfl rfl rfl rfl rfl (St.lC (xs:=[iV x.l.aZ.num,iV x.l.aZ.ans.code,iV x.l.aZ.ans.dQ,iV x.l.aZ.ans.hno,iV x.l.aZ.ans.body,iV x.l.aZ.pl.node,iV x.l.aZ.pl.epoch]) 0 gZ rfl rfl rfl) Tryz.underlying33 al0 rfl (by decide) (bL rfl) (by simp only [maxLen];omega) (by omega) (iO (enc:=sO.cells) rfl rfl) ?_;intro A16 c17 Ht ajY ajZ kM;refine gK ?_;refine eG (by kernel_rfl) rfl rfl rfl ?_;refine zN 3 ?_;refine jk 5 kM ah2 ?_ (hs:=by exact asF);intro YD lQ;refine zQ ?_;refine iK ?_;refine bU (l':=[]) trivial (bY (aY (rs:=[]) (vs:=[]) rfl trivial ?_));have jy:=lQ.aT [1,0];rw [<-pX] at jy;have Sq:m.aZ.length+1=(m.aZ++[x.l.aZ]).length:=by simp
  rw [Sq] at jy;rw [adJ uy];exact ⟨rfl,Wd.dL (X':=X) (z':=z) (Ls:=[]) (fA:=R.fA) (fc:=R.fc) (fx:=R.fx) (sA:=R.sA) (sc:=R.sc) (tA:=A16) (tc:=c17) hkn cO hrr G hn jy NG.more (λu hu=> .inl hu) (aJ hX).symm G.fly.symm mH⟩
 ·refine zN 22 ?_;by_cases sM:0<=x.l.nd
  ·refine zN 4 ?_;obtain ⟨FD,Ib⟩: ∃ r,Kg m.off x.l.q x.l.ep x.l.nd=r:=⟨_,rfl⟩;have HF:=λw h=>Uu m.off x.l.q x.l.ep x.l.nd w h;rw [Ib] at HF;refine zQ ?_;have nL:=S3.drew;refine aK 17 nL [] ?_;refine aL 3 ?_;refine ak (v:= .agg ((m.off.cells).toArray)) 3 rfl nL (λ_ Y2=>(ah rfl rfl (aA (cs:=(m.off.cells)) Tryz.underlying30 rfl oC rfl (St.rg 4 Y2 rfl (wJ))))) ?_;refine aL 6 ?_;refine gU (n:=6) (r:=10) (s:=14) (by kernel_rfl) ?_ ?_
   ·refine jC 10 rfl ah4 (HF _ (Uk.nw hu nL)) ?_;rintro _ Wx ⟨rfl,azC⟩;refine ⟨_,rfl,?_⟩;have kT:=nL.on azC;refine aL 4 ?_;refine aX 14 ?_;refine kX 14 rfl kT aeb ?_;intro b43 NV nI;refine dG ?_;refine aX 15 ?_;refine XO 15 rfl 0 nI oC ?_ (h1:=uz _);intro Wy xY;refine aL 3 ?_;refine zN 4 ?_;by_cases h49:FD.2=0
    ·refine zN 9 ?_;refine jk 5 xY oC ?_ (h1:=uz _) (hs:=by exact aj2);intro R7 uq;refine zN 2 ?_;obtain ⟨PW,uG⟩: ∃ r,bO FD.1 x.l.q=r:=⟨_,rfl⟩;have HQ:=λw h=>mG FD.1 x.l.q w h;rw [uG] at HQ;refine zQ ?_;have nT:=uq.drew;refine aK 13 nT [] ?_;refine aL 3 ?_;refine ak (v:= .agg (((FD.1).cells).toArray)) 3 rfl nT (λ_ YZ=>(ah rfl rfl (aA (cs:=((FD.1).cells)) Tryz.underlying30 rfl oC rfl (St.rg 5 YZ rfl (wJ))))) ?_;refine aL 2 ?_;refine gU (n:=6) (r:=6) (s:=10) (by kernel_rfl) ?_ ?_
     ·refine jC 6 rfl xU (HQ _ (Uk.nw hu nT)) ?_;rintro _ w59 ⟨rfl,azD⟩;refine ⟨_,rfl,?_⟩;have R8:=nT.on azD;refine aL 4 ?_;refine aX 10 ?_;refine kX 10 rfl R8 Ez ?_;intro b65 R6 sI;refine dG ?_;refine aX 11 ?_;refine sn 11 rfl 0 sI iY ?_;intro w68 uw;refine aL 3 ?_;refine zN 4 ?_;by_cases h71:PW.2=0
      ·refine zN 14 ?_;refine vv (v:= .agg #[iV 6,iV (-2),iV x.l.fr,iV ((x.l.q:Nat):Int),iV PW.1.epoch,iV 0,iV PW.1.node,iV 0,iV 0,iV 0,iV 0,iV 0,iV 0,.slice none 0 0,.bool false,iV 0,iV 0,iV 0,iV 0,iV 0,iV 0,iV 0,iV 0]) fT ?_;have DV:=uw.dZ [7,7];refine dN xk (gL (x:=⟨oQ x.l.fr x.l.q PW.1,none,0⟩) DV (by omega)) ?_;rintro _ w77 ⟨rfl,A73,c74,azE,aqw,H6⟩;refine ⟨_,rfl,?_⟩;refine zQ ?_;refine bU (l':=[]) trivial (bY (aY (rs:=[]) (vs:=[]) rfl trivial ?_));have Bw:=H6.aT [4,3,2];have zU:=Bw.dZ [6,6,3,3,6,6,6];rw [<-pX] at zU;have kP:gu m.off x.l=FD.1:=by
        unfold gu;rw [Ib,if_pos (by omega)]
       rw [qB (PW:=PW) uy (by rw [kP];exact uG) (by assumption),kP];exact ⟨rfl,Wd.dL (X':=X) (z':=z) (Ls:=[]) (fA:=A73) (fc:=c74) (fx:=azE) (sA:=R.sA) (sc:=R.sc) (tA:=R.tA) (tc:=R.tc) hkn cO hrr G hn zU NG.more (by rw [aqw];exact nR (iF rfl)) (aJ hX).symm (by rw [aqw,List.map_append,G.fly];rfl) mH⟩
      refine zN 7 ?_;have tK:=uw.aT [2,1,0];rw [<-pX] at tK;have kP:gu m.off x.l=FD.1:=by
       unfold gu;rw [Ib,if_pos (by omega)]
      rw [qC (PW:=PW) uy (by rw [kP];exact uG) (by assumption),kP];exact ⟨rfl,Wd.dL (X':=X) (z':=z) (Ls:=[]) (fA:=R.fA) (fc:=R.fc) (fx:=R.fx) (sA:=R.sA) (sc:=R.sc) (tA:=R.tA) (tc:=R.tc) hkn cO hrr G hn tK NG.more (λu hu=> .inl hu) (aJ hX).symm G.fly.symm mH⟩
     refine kX 10 rfl nT Ez ?_;intro b82 w83 DZ;refine dG ?_;refine aX 6 ?_;refine jC 6 rfl xU (HQ _ (Uk.nw hu DZ)) ?_;rintro _ w85 ⟨rfl,apt⟩;refine ⟨_,rfl,?_⟩;have zV:=DZ.on apt;refine aL 4 ?_;refine aX 11 ?_;refine sn 11 rfl 0 zV iY ?_;intro w91 xW;refine aL 3 ?_;refine zN 4 ?_;by_cases h94:PW.2=0
     ·refine zN 14 ?_;refine vv (v:= .agg #[iV 6,iV (-2),iV x.l.fr,iV ((x.l.q:Nat):Int),iV PW.1.epoch,iV 0,iV PW.1.node,iV 0,iV 0,iV 0,iV 0,iV 0,iV 0,.slice none 0 0,.bool false,iV 0,iV 0,iV 0,iV 0,iV 0,iV 0,iV 0,iV 0]) fT ?_;have Jv:=xW.dZ [7,7];refine dN xk (gL (x:=⟨oQ x.l.fr x.l.q PW.1,none,0⟩) Jv (by omega)) ?_;rintro _ YM ⟨rfl,A96,c97,azF,aqx,sN⟩;refine ⟨_,rfl,?_⟩;refine zQ ?_;refine bU (l':=[]) trivial (bY (aY (rs:=[]) (vs:=[]) rfl trivial ?_));have rG:=sN.aT [4,3,2];have oP:=rG.dZ [6,6,3,3,6,6,6];rw [<-pX] at oP;have kP:gu m.off x.l=FD.1:=by
       unfold gu;rw [Ib,if_pos (by omega)]
      rw [qB (PW:=PW) uy (by rw [kP];exact uG) (by assumption),kP];exact ⟨rfl,Wd.dL (X':=X) (z':=z) (Ls:=[]) (fA:=A96) (fc:=c97) (fx:=azF) (sA:=R.sA) (sc:=R.sc) (tA:=R.tA) (tc:=R.tc) hkn cO hrr G hn oP NG.more (by rw [aqx];exact nR (iF rfl)) (aJ hX).symm (by rw [aqx,List.map_append,G.fly];rfl) mH⟩
     refine zN 7 ?_;have uT:=xW.aT [2,1,0];rw [<-pX] at uT;have kP:gu m.off x.l=FD.1:=by
      unfold gu;rw [Ib,if_pos (by omega)]
     rw [qC (PW:=PW) uy (by rw [kP];exact uG) (by assumption),kP];exact ⟨rfl,Wd.dL (X':=X) (z':=z) (Ls:=[]) (fA:=R.fA) (fc:=R.fc) (fx:=R.fx) (sA:=R.sA) (sc:=R.sc) (tA:=R.tA) (tc:=R.tc) hkn cO hrr G hn uT NG.more (λu hu=> .inl hu) (aJ hX).symm G.fly.symm mH⟩
    refine zN 6 ?_;obtain ⟨PW,uG⟩: ∃ r,bO m.off x.l.q=r:=⟨_,rfl⟩;have HQ:=λw h=>mG m.off x.l.q w h;rw [uG] at HQ;refine mh (X:=Nat) (λxv=>[(0,.pointer (some ⟨kw,0,none⟩)),(3,.pointer (some ⟨b1,0,none⟩)),(6,.pointer (some ⟨xv,0,none⟩)),(7,iV PW.2)]) (λxv wr=>St B w0 wr ((.blk xv #[iV PW.1.node,iV PW.1.epoch] 27)::(.blk b43 (((FD.1).cells).toArray) 30)::(.blk b1 (LX.row x) 146)::(.blk kn (dK n X.up (.slice z.tA X.data.length z.tc) X.syn (.slice (some ⟨z.bb,0,none⟩) 4 4) X.hints X.sure (.slice z.iA z.ix.length z.ic) (z.pv) X.turn) 120)::(.own 73 6 (.slice (some ⟨z.bb,0,none⟩) 4 4) 4 ((z.bx).flatMap BX.cells))::(fL z.iA z.ix z.ic)::(bW kw (.slice (some ⟨ab,ao,none⟩) 5 R.nc) m.off R.fA R.fx R.fc m.shown R.sA m.aP R.sc R.tA m.aZ R.tc m.calls)::(oL R.fA R.fx R.fc)::(oS R.sA m.aP R.sc)::(oT R.tA m.aZ R.tc)::rr)) ?_ ?_
    ·have qU:=xY.drew;refine aK 13 qU [] ?_;refine aL 3 ?_;refine ak (v:= .agg ((m.off.cells).toArray)) 3 rfl qU (λ_ atd=>(ah rfl rfl (aA (cs:=(m.off.cells)) Tryz.underlying30 rfl oC rfl (St.rg 5 atd rfl (wJ))))) ?_;refine aL 2 ?_;refine gU (n:=6) (r:=6) (s:=10) (by kernel_rfl) ?_ ?_
     ·refine jC 6 rfl xU (HQ _ (Uk.nw hu qU)) ?_;rintro _ Yr ⟨rfl,ate⟩;refine ⟨_,rfl,?_⟩;have mW:=qU.on ate;refine aL 4 ?_;refine aX 10 ?_;refine kX 10 rfl mW Ez ?_;intro azG aoG pR;refine dG ?_;refine aX 11 ?_;refine sn 11 rfl 0 pR iY ?_;intro YN Bh;refine aL 3 ?_;refine dJ azG ?_ ⟨rfl,rfl,rfl,rfl,trivial⟩;exact Bh
     refine kX 10 rfl qU Ez ?_;intro azH ajS wE;refine dG ?_;refine aX 6 ?_;refine jC 6 rfl xU (HQ _ (Uk.nw hu wE)) ?_;rintro _ XV ⟨rfl,aaK⟩;refine ⟨_,rfl,?_⟩;have xq:=wE.on aaK;refine aL 4 ?_;refine aX 11 ?_;refine sn 11 rfl 0 xq iY ?_;intro Yj yG;refine aL 3 ?_;refine dJ azH ?_ ⟨rfl,rfl,rfl,rfl,trivial⟩;exact yG
    rintro azI aoi CY
    try dsimp only at CY
    refine bn (l':=[(0,.pointer (some ⟨kw,0,none⟩)),(3,.pointer (some ⟨b1,0,none⟩)),(6,.pointer (some ⟨azI,0,none⟩)),(7,iV PW.2)]) ⟨rfl,rfl,rfl,rfl,trivial⟩ (aH (aB (vm ?_)));by_cases aGD:PW.2=0
    ·refine zN 14 ?_;refine vv (v:= .agg #[iV 6,iV (-2),iV x.l.fr,iV ((x.l.q:Nat):Int),iV PW.1.epoch,iV 0,iV PW.1.node,iV 0,iV 0,iV 0,iV 0,iV 0,iV 0,.slice none 0 0,.bool false,iV 0,iV 0,iV 0,iV 0,iV 0,iV 0,iV 0,iV 0]) fT ?_;have EF:=CY.dZ [7,7];refine dN xk (gL (x:=⟨oQ x.l.fr x.l.q PW.1,none,0⟩) EF (by omega)) ?_;rintro _ aw9 ⟨rfl,aei,aej,atf,ai6,OM⟩;refine ⟨_,rfl,?_⟩;refine zQ ?_;refine bU (l':=[]) trivial (bY (aY (rs:=[]) (vs:=[]) rfl trivial ?_));have OO:=OM.aT [4,3,2];have Bf:=OO.dZ [6,6,3,3,6,6,6];rw [<-pX] at Bf;have kP:gu m.off x.l=m.off:=by
      unfold gu
      first | rw [Ib,if_neg (by omega)] | rw [if_neg (by omega)]
     rw [qB (PW:=PW) uy (by rw [kP];exact uG) (by assumption),kP];exact ⟨rfl,Wd.dL (X':=X) (z':=z) (Ls:=[]) (fA:=aei) (fc:=aej) (fx:=atf) (sA:=R.sA) (sc:=R.sc) (tA:=R.tA) (tc:=R.tc) hkn cO hrr G hn Bf NG.more (by rw [ai6];exact nR (iF rfl)) (aJ hX).symm (by rw [ai6,List.map_append,G.fly];rfl) mH⟩
    refine zN 7 ?_;have yH:=CY.aT [2,1,0];rw [<-pX] at yH;have kP:gu m.off x.l=m.off:=by
     unfold gu
     first | rw [Ib,if_neg (by omega)] | rw [if_neg (by omega)]
    rw [qC (PW:=PW) uy (by rw [kP];exact uG) (by assumption),kP];exact ⟨rfl,Wd.dL (X':=X) (z':=z) (Ls:=[]) (fA:=R.fA) (fc:=R.fc) (fx:=R.fx) (sA:=R.sA) (sc:=R.sc) (tA:=R.tA) (tc:=R.tc) hkn cO hrr G hn yH NG.more (λu hu=> .inl hu) (aJ hX).symm G.fly.symm mH⟩
   refine kX 14 rfl nL aeb ?_;intro aqy azq GI;refine dG ?_;refine aX 10 ?_;refine jC 10 rfl ah4 (HF _ (Uk.nw hu GI)) ?_;rintro _ apT ⟨rfl,atg⟩;refine ⟨_,rfl,?_⟩;have uh:=GI.on atg;refine aL 4 ?_;refine aX 15 ?_;refine XO 15 rfl 0 uh oC ?_ (h1:=uz _);intro aoM L6;refine aL 3 ?_;refine zN 4 ?_;by_cases aGE:FD.2=0
   ·refine zN 9 ?_;refine jk 5 L6 oC ?_ (h1:=uz _) (hs:=by exact aj2);intro aGF Tw;refine zN 2 ?_;obtain ⟨PW,uG⟩: ∃ r,bO FD.1 x.l.q=r:=⟨_,rfl⟩;have HQ:=λw h=>mG FD.1 x.l.q w h;rw [uG] at HQ;refine mh (X:=Nat) (λxv=>[(0,.pointer (some ⟨kw,0,none⟩)),(3,.pointer (some ⟨b1,0,none⟩)),(6,.pointer (some ⟨xv,0,none⟩)),(7,iV PW.2)]) (λxv wr=>St B w0 wr ((.blk xv #[iV PW.1.node,iV PW.1.epoch] 27)::(.blk aqy (((FD.1).cells).toArray) 30)::(.blk b1 (LX.row x) 146)::(.blk kn (dK n X.up (.slice z.tA X.data.length z.tc) X.syn (.slice (some ⟨z.bb,0,none⟩) 4 4) X.hints X.sure (.slice z.iA z.ix.length z.ic) (z.pv) X.turn) 120)::(.own 73 6 (.slice (some ⟨z.bb,0,none⟩) 4 4) 4 ((z.bx).flatMap BX.cells))::(fL z.iA z.ix z.ic)::(bW kw (.slice (some ⟨ab,ao,none⟩) 5 R.nc) FD.1 R.fA R.fx R.fc m.shown R.sA m.aP R.sc R.tA m.aZ R.tc m.calls)::(oL R.fA R.fx R.fc)::(oS R.sA m.aP R.sc)::(oT R.tA m.aZ R.tc)::rr)) ?_ ?_
    ·have xB:=Tw.drew;refine aK 13 xB [] ?_;refine aL 3 ?_;refine ak (v:= .agg (((FD.1).cells).toArray)) 3 rfl xB (λ_ ath=>(ah rfl rfl (aA (cs:=((FD.1).cells)) Tryz.underlying30 rfl oC rfl (St.rg 5 ath rfl (wJ))))) ?_;refine aL 2 ?_;refine gU (n:=6) (r:=6) (s:=10) (by kernel_rfl) ?_ ?_
     ·refine jC 6 rfl xU (HQ _ (Uk.nw hu xB)) ?_;rintro _ akf ⟨rfl,ati⟩;refine ⟨_,rfl,?_⟩;have Tx:=xB.on ati;refine aL 4 ?_;refine aX 10 ?_;refine kX 10 rfl Tx Ez ?_;intro Zr apN rH;refine dG ?_;refine aX 11 ?_;refine sn 11 rfl 0 rH iY ?_;intro aGG azJ;refine aL 3 ?_;refine dJ Zr ?_ ⟨rfl,rfl,rfl,rfl,trivial⟩;exact azJ
     refine kX 10 rfl xB Ez ?_;intro azK aGH aqz;refine dG ?_;refine aX 6 ?_;refine jC 6 rfl xU (HQ _ (Uk.nw hu aqz)) ?_;rintro _ aGI ⟨rfl,atj⟩;refine ⟨_,rfl,?_⟩;have akD:=aqz.on atj;refine aL 4 ?_;refine aX 11 ?_;refine sn 11 rfl 0 akD iY ?_;intro ayt O8;refine aL 3 ?_;refine dJ azK ?_ ⟨rfl,rfl,rfl,rfl,trivial⟩;exact O8
    rintro azL aGJ akK
    try dsimp only at akK
    refine bn (l':=[(0,.pointer (some ⟨kw,0,none⟩)),(3,.pointer (some ⟨b1,0,none⟩)),(6,.pointer (some ⟨azL,0,none⟩)),(7,iV PW.2)]) ⟨rfl,rfl,rfl,rfl,trivial⟩ (aH (aB (vm ?_)));by_cases aGK:PW.2=0
    ·refine zN 14 ?_;refine vv (v:= .agg #[iV 6,iV (-2),iV x.l.fr,iV ((x.l.q:Nat):Int),iV PW.1.epoch,iV 0,iV PW.1.node,iV 0,iV 0,iV 0,iV 0,iV 0,iV 0,.slice none 0 0,.bool false,iV 0,iV 0,iV 0,iV 0,iV 0,iV 0,iV 0,iV 0]) fT ?_;have azM:=akK.dZ [7,7];refine dN xk (gL (x:=⟨oQ x.l.fr x.l.q PW.1,none,0⟩) azM (by omega)) ?_;rintro _ azN ⟨rfl,azO,azP,atl,ai7,akL⟩;refine ⟨_,rfl,?_⟩;refine zQ ?_;refine bU (l':=[]) trivial (bY (aY (rs:=[]) (vs:=[]) rfl trivial ?_));have aeD:=akL.aT [4,3,2];have aqA:=aeD.dZ [6,6,3,3,6,6,6];rw [<-pX] at aqA;have kP:gu m.off x.l=FD.1:=by
      unfold gu;rw [Ib,if_pos (by omega)]
     rw [qB (PW:=PW) uy (by rw [kP];exact uG) (by assumption),kP];exact ⟨rfl,Wd.dL (X':=X) (z':=z) (Ls:=[]) (fA:=azO) (fc:=azP) (fx:=atl) (sA:=R.sA) (sc:=R.sc) (tA:=R.tA) (tc:=R.tc) hkn cO hrr G hn aqA NG.more (by rw [ai7];exact nR (iF rfl)) (aJ hX).symm (by rw [ai7,List.map_append,G.fly];rfl) mH⟩
    refine zN 7 ?_;have aqB:=akK.aT [2,1,0];rw [<-pX] at aqB;have kP:gu m.off x.l=FD.1:=by
     unfold gu;rw [Ib,if_pos (by omega)]
    rw [qC (PW:=PW) uy (by rw [kP];exact uG) (by assumption),kP];exact ⟨rfl,Wd.dL (X':=X) (z':=z) (Ls:=[]) (fA:=R.fA) (fc:=R.fc) (fx:=R.fx) (sA:=R.sA) (sc:=R.sc) (tA:=R.tA) (tc:=R.tc) hkn cO hrr G hn aqB NG.more (λu hu=> .inl hu) (aJ hX).symm G.fly.symm mH⟩
   refine zN 6 ?_;obtain ⟨PW,uG⟩: ∃ r,bO m.off x.l.q=r:=⟨_,rfl⟩;have HQ:=λw h=>mG m.off x.l.q w h;rw [uG] at HQ;refine mh (X:=Nat) (λxv=>[(0,.pointer (some ⟨kw,0,none⟩)),(3,.pointer (some ⟨b1,0,none⟩)),(6,.pointer (some ⟨xv,0,none⟩)),(7,iV PW.2)]) (λxv wr=>St B w0 wr ((.blk xv #[iV PW.1.node,iV PW.1.epoch] 27)::(.blk aqy (((FD.1).cells).toArray) 30)::(.blk b1 (LX.row x) 146)::(.blk kn (dK n X.up (.slice z.tA X.data.length z.tc) X.syn (.slice (some ⟨z.bb,0,none⟩) 4 4) X.hints X.sure (.slice z.iA z.ix.length z.ic) (z.pv) X.turn) 120)::(.own 73 6 (.slice (some ⟨z.bb,0,none⟩) 4 4) 4 ((z.bx).flatMap BX.cells))::(fL z.iA z.ix z.ic)::(bW kw (.slice (some ⟨ab,ao,none⟩) 5 R.nc) m.off R.fA R.fx R.fc m.shown R.sA m.aP R.sc R.tA m.aZ R.tc m.calls)::(oL R.fA R.fx R.fc)::(oS R.sA m.aP R.sc)::(oT R.tA m.aZ R.tc)::rr)) ?_ ?_
   ·have ZP:=L6.drew;refine aK 13 ZP [] ?_;refine aL 3 ?_;refine ak (v:= .agg ((m.off.cells).toArray)) 3 rfl ZP (λ_ aaN=>(ah rfl rfl (aA (cs:=(m.off.cells)) Tryz.underlying30 rfl oC rfl (St.rg 5 aaN rfl (wJ))))) ?_;refine aL 2 ?_;refine gU (n:=6) (r:=6) (s:=10) (by kernel_rfl) ?_ ?_
    ·refine jC 6 rfl xU (HQ _ (Uk.nw hu ZP)) ?_;rintro _ aGL ⟨rfl,atm⟩;refine ⟨_,rfl,?_⟩;have azQ:=ZP.on atm;refine aL 4 ?_;refine aX 10 ?_;refine kX 10 rfl azQ Ez ?_;intro azR aGM akM;refine dG ?_;refine aX 11 ?_;refine sn 11 rfl 0 akM iY ?_;intro aGN ZQ;refine aL 3 ?_;refine dJ azR ?_ ⟨rfl,rfl,rfl,rfl,trivial⟩;exact ZQ
    refine kX 10 rfl ZP Ez ?_;intro azS aGO aqC;refine dG ?_;refine aX 6 ?_;refine jC 6 rfl xU (HQ _ (Uk.nw hu aqC)) ?_;rintro _ aGP ⟨rfl,atn⟩;refine ⟨_,rfl,?_⟩;have azT:=aqC.on atn;refine aL 4 ?_;refine aX 11 ?_;refine sn 11 rfl 0 azT iY ?_;intro aGQ akN;refine aL 3 ?_;refine dJ azS ?_ ⟨rfl,rfl,rfl,rfl,trivial⟩;exact akN
   rintro azU azV ZR
   try dsimp only at ZR
   refine bn (l':=[(0,.pointer (some ⟨kw,0,none⟩)),(3,.pointer (some ⟨b1,0,none⟩)),(6,.pointer (some ⟨azU,0,none⟩)),(7,iV PW.2)]) ⟨rfl,rfl,rfl,rfl,trivial⟩ (aH (aB (vm ?_)));by_cases aGR:PW.2=0
   ·refine zN 14 ?_;refine vv (v:= .agg #[iV 6,iV (-2),iV x.l.fr,iV ((x.l.q:Nat):Int),iV PW.1.epoch,iV 0,iV PW.1.node,iV 0,iV 0,iV 0,iV 0,iV 0,iV 0,.slice none 0 0,.bool false,iV 0,iV 0,iV 0,iV 0,iV 0,iV 0,iV 0,iV 0]) fT ?_;have akO:=ZR.dZ [7,7];refine dN xk (gL (x:=⟨oQ x.l.fr x.l.q PW.1,none,0⟩) akO (by omega)) ?_;rintro _ aGS ⟨rfl,azW,azX,ato,ai8,aeE⟩;refine ⟨_,rfl,?_⟩;refine zQ ?_;refine bU (l':=[]) trivial (bY (aY (rs:=[]) (vs:=[]) rfl trivial ?_));have azY:=aeE.aT [4,3,2];have aqD:=azY.dZ [6,6,3,3,6,6,6];rw [<-pX] at aqD;have kP:gu m.off x.l=m.off:=by
     unfold gu
     first | rw [Ib,if_neg (by omega)] | rw [if_neg (by omega)]
    rw [qB (PW:=PW) uy (by rw [kP];exact uG) (by assumption),kP];exact ⟨rfl,Wd.dL (X':=X) (z':=z) (Ls:=[]) (fA:=azW) (fc:=azX) (fx:=ato) (sA:=R.sA) (sc:=R.sc) (tA:=R.tA) (tc:=R.tc) hkn cO hrr G hn aqD NG.more (by rw [ai8];exact nR (iF rfl)) (aJ hX).symm (by rw [ai8,List.map_append,G.fly];rfl) mH⟩
   refine zN 7 ?_;have aqE:=ZR.aT [2,1,0];rw [<-pX] at aqE;have kP:gu m.off x.l=m.off:=by
    unfold gu
    first | rw [Ib,if_neg (by omega)] | rw [if_neg (by omega)]
   rw [qC (PW:=PW) uy (by rw [kP];exact uG) (by assumption),kP];exact ⟨rfl,Wd.dL (X':=X) (z':=z) (Ls:=[]) (fA:=R.fA) (fc:=R.fc) (fx:=R.fx) (sA:=R.sA) (sc:=R.sc) (tA:=R.tA) (tc:=R.tc) hkn cO hrr G hn aqE NG.more (λu hu=> .inl hu) (aJ hX).symm G.fly.symm mH⟩
  refine zN 6 ?_;obtain ⟨PW,uG⟩: ∃ r,bO m.off x.l.q=r:=⟨_,rfl⟩;have HQ:=λw h=>mG m.off x.l.q w h;rw [uG] at HQ;refine mh (X:=Nat) (λxv=>[(0,.pointer (some ⟨kw,0,none⟩)),(3,.pointer (some ⟨b1,0,none⟩)),(6,.pointer (some ⟨xv,0,none⟩)),(7,iV PW.2)]) (λxv wr=>St B w0 wr ((.blk xv #[iV PW.1.node,iV PW.1.epoch] 27)::(.blk b1 (LX.row x) 146)::(.blk kn (dK n X.up (.slice z.tA X.data.length z.tc) X.syn (.slice (some ⟨z.bb,0,none⟩) 4 4) X.hints X.sure (.slice z.iA z.ix.length z.ic) (z.pv) X.turn) 120)::(.own 73 6 (.slice (some ⟨z.bb,0,none⟩) 4 4) 4 ((z.bx).flatMap BX.cells))::(fL z.iA z.ix z.ic)::(bW kw (.slice (some ⟨ab,ao,none⟩) 5 R.nc) m.off R.fA R.fx R.fc m.shown R.sA m.aP R.sc R.tA m.aZ R.tc m.calls)::(oL R.fA R.fx R.fc)::(oS R.sA m.aP R.sc)::(oT R.tA m.aZ R.tc)::rr)) ?_ ?_
  ·have ZT:=S3.drew;refine aK 13 ZT [] ?_;refine aL 3 ?_;refine ak (v:= .agg ((m.off.cells).toArray)) 3 rfl ZT (λ_ atp=>(ah rfl rfl (aA (cs:=(m.off.cells)) Tryz.underlying30 rfl oC rfl (St.rg 4 atp rfl (wJ))))) ?_;refine aL 2 ?_;refine gU (n:=6) (r:=6) (s:=10) (by kernel_rfl) ?_ ?_
   ·refine jC 6 rfl xU (HQ _ (Uk.nw hu ZT)) ?_;rintro _ aGT ⟨rfl,atq⟩;refine ⟨_,rfl,?_⟩;have azZ:=ZT.on atq;refine aL 4 ?_;refine aX 10 ?_;refine kX 10 rfl azZ Ez ?_;intro az0 aGU az1;refine dG ?_;refine aX 11 ?_;refine sn 11 rfl 0 az1 iY ?_;intro aGV az2;refine aL 3 ?_;refine dJ az0 ?_ ⟨rfl,rfl,rfl,rfl,trivial⟩;exact az2
   refine kX 10 rfl ZT Ez ?_;intro az3 aGW aqF;refine dG ?_;refine aX 6 ?_;refine jC 6 rfl xU (HQ _ (Uk.nw hu aqF)) ?_;rintro _ aGX ⟨rfl,atr⟩;refine ⟨_,rfl,?_⟩;have az4:=aqF.on atr;refine aL 4 ?_;refine aX 11 ?_;refine sn 11 rfl 0 az4 iY ?_;intro aGY az5;refine aL 3 ?_;refine dJ az3 ?_ ⟨rfl,rfl,rfl,rfl,trivial⟩;exact az5
  rintro az6 aGZ akP
  try dsimp only at akP
  refine bn (l':=[(0,.pointer (some ⟨kw,0,none⟩)),(3,.pointer (some ⟨b1,0,none⟩)),(6,.pointer (some ⟨az6,0,none⟩)),(7,iV PW.2)]) ⟨rfl,rfl,rfl,rfl,trivial⟩ (aH (aB (vm ?_)));by_cases aG0:PW.2=0
  ·refine zN 14 ?_;refine vv (v:= .agg #[iV 6,iV (-2),iV x.l.fr,iV ((x.l.q:Nat):Int),iV PW.1.epoch,iV 0,iV PW.1.node,iV 0,iV 0,iV 0,iV 0,iV 0,iV 0,.slice none 0 0,.bool false,iV 0,iV 0,iV 0,iV 0,iV 0,iV 0,iV 0,iV 0]) fT ?_;have az7:=akP.dZ [6,6];refine dN xk (gL (x:=⟨oQ x.l.fr x.l.q PW.1,none,0⟩) az7 (by omega)) ?_;rintro _ aG1 ⟨rfl,az8,az9,att,ai9,aAa⟩;refine ⟨_,rfl,?_⟩;refine zQ ?_;refine bU (l':=[]) trivial (bY (aY (rs:=[]) (vs:=[]) rfl trivial ?_));have aeF:=aAa.aT [3,2];have aqG:=aeF.dZ [6,6,3,3,6,6,6];rw [<-pX] at aqG;have kP:gu m.off x.l=m.off:=by
    unfold gu
    first | rw [Ib,if_neg (by omega)] | rw [if_neg (by omega)]
   rw [qB (PW:=PW) uy (by rw [kP];exact uG) (by assumption),kP];exact ⟨rfl,Wd.dL (X':=X) (z':=z) (Ls:=[]) (fA:=az8) (fc:=az9) (fx:=att) (sA:=R.sA) (sc:=R.sc) (tA:=R.tA) (tc:=R.tc) hkn cO hrr G hn aqG NG.more (by rw [ai9];exact nR (iF rfl)) (aJ hX).symm (by rw [ai9,List.map_append,G.fly];rfl) mH⟩
  refine zN 7 ?_;have aqH:=akP.aT [1,0];rw [<-pX] at aqH;have kP:gu m.off x.l=m.off:=by
   unfold gu
   first | rw [Ib,if_neg (by omega)] | rw [if_neg (by omega)]
  rw [qC (PW:=PW) uy (by rw [kP];exact uG) (by assumption),kP];exact ⟨rfl,Wd.dL (X':=X) (z':=z) (Ls:=[]) (fA:=R.fA) (fc:=R.fc) (fx:=R.fx) (sA:=R.sA) (sc:=R.sc) (tA:=R.tA) (tc:=R.tc) hkn cO hrr G hn aqH NG.more (λu hu=> .inl hu) (aJ hX).symm G.fly.symm mH⟩
 refine zN 18 ?_;refine dY S3 mixed (by kernel_rfl) ?_;refine zN 3 ?_;refine uv (v:= .slice (some ⟨ab,ao,none⟩) 5 R.nc) (λ_ atu=>(ah rfl rfl (av Tryz.underlying105 rfl (St.cl 4 atu rfl yK)))) ?_;refine zQ ?_;refine uv (v:=iV ((n:Nat):Int)) (λ_ atv=>(uy▸(ah rfl rfl (av Tryz.underlying3 rfl (St.cl 0 atv rfl rfl))))) ?_;refine uv (λ_ _=>jX n) ?_;refine uv (v:= .pointer (some ⟨kn,0,none⟩)) (λ_ atw=>(ah rfl rfl (av Tryz.underlying113 rfl (hkn▸uE harr hn atw (memT 8 rfl hL))))) ?_;refine zN 4 ?_;refine fC λaG2 aqI=>?_;refine zQ ?_
 cases aCV:(X.up)
 ·refine bn (l':=[(0,.pointer (some ⟨kw,0,none⟩)),(3,.pointer (some ⟨b1,0,none⟩)),(76,.bool false)]) ⟨rfl,rfl,rfl,trivial⟩ (dD rfl (gG (bY (aY (rs:=[]) (vs:=[]) rfl trivial ?_))));have aqJ:=aqI.aT [0];rw [<-pX] at aqJ;rw [ZO uy hX (by assumption)];exact ⟨rfl,Wd.dL (X':=X) (z':=z) (Ls:=[]) (fA:=R.fA) (fc:=R.fc) (fx:=R.fx) (sA:=R.sA) (sc:=R.sc) (tA:=R.tA) (tc:=R.tc) hkn cO hrr G hn aqJ NG.more (λu hu=> .inl hu) (aJ hX).symm G.fly.symm mH⟩
 refine bn (l':=[(0,.pointer (some ⟨kw,0,none⟩)),(3,.pointer (some ⟨b1,0,none⟩)),(76,.bool true)]) ⟨rfl,rfl,rfl,trivial⟩ (iT rfl (aH (dY aqI mixed (by kernel_rfl) ?_)));refine zN 3 ?_;refine uv (v:= .slice (some ⟨ab,ao,none⟩) 5 R.nc) (λ_ atx=>(ah rfl rfl (av Tryz.underlying105 rfl (St.cl 4 atx rfl yK)))) ?_;refine zQ ?_;refine uv (v:=iV ((n:Nat):Int)) (λ_ aty=>(uy▸(ah rfl rfl (av Tryz.underlying3 rfl (St.cl 0 aty rfl rfl))))) ?_;refine uv (λ_ _=>jX n) ?_;refine uv (v:= .pointer (some ⟨kn,0,none⟩)) (λ_ atz=>(ah rfl rfl (av Tryz.underlying113 rfl (hkn▸uE harr hn atz (memT 8 rfl hL))))) ?_;refine zQ ?_;refine fC λaG3 aAb=>?_;refine zQ ?_;have aeG:=aAb.drew;refine fq 11 8 aeG [3] ?_;iterate 6 refine gK ?_
 refine eH (m:=4) (r:=6) (by kernel_rfl) ?_;refine lK (i:=6) rfl rfl (V:=λb=> .slice (some ⟨b,0,none⟩) 1 1) (row:=LX.row x) (t:=146) aeG (wn rfl) rfl rfl (aV (vs:=[(0,.agg (LX.row x))]) rfl ⟨rfl,rfl,trivial⟩ (by kernel_rfl)) ?_;intro aG4 aG5 aqK;refine gK ?_;refine eH (m:=3) (r:=7) (by kernel_rfl) ?_;refine XK (i:=7) rfl rfl (news:=(LX.cells x)) (xs':=(z.ix++[x]).flatMap LX.cells) 4 aqK (wn rfl) rfl rfl rfl rfl rfl rfl (St.lC (xs:=(LX.cells x)) 0 aqK rfl rfl rfl) (by decide) Tryz.underlying106 V3 rfl (by decide) (Cr _) (by simp only [maxLen];omega) (by omega) (iO (enc:=LX.cells) rfl rfl) ?_;intro aqL aqM aG6 aAc;refine gK ?_;refine eG (by kernel_rfl) rfl rfl rfl ?_;refine zN 2 ?_;refine jk (row':=dK n X.up (.slice z.tA X.data.length z.tc) X.syn (.slice (some ⟨z.bb,0,none⟩) 4 4) X.hints X.sure (.slice aqL (z.ix.length+1) aqM) (z.pv) X.turn) 2 aAc AB ?_;intro aG7 aAd;refine zQ ?_;refine iK ?_;refine bU (l':=[]) trivial (bY (aY (rs:=[]) (vs:=[]) rfl trivial ?_));have akQ:=aAd.aT [1,0];rw [<-pX] at akQ;have Sq:z.ix.length+1=(z.ix++[x]).length:=by simp
 rw [Sq] at akQ;rw [ZN uy hX (by assumption)];exact ⟨rfl,Wd.dL (X':=X.box (X.inbox++[x.l])) (z':={ z with iA:=aqL,ic:=aqM,ix:=z.ix++[x] }) (Ls:=[]) (fA:=R.fA) (fc:=R.fc) (fx:=R.fx) (sA:=R.sA) (sc:=R.sc) (tA:=R.tA) (tc:=R.tc) hkn cO hrr G hn akQ (NG.more.atc (by rw [List.append_nil];exact G.hld x (List.mem_cons_self ..))) (λu hu=> .inl hu) rfl G.fly.symm mH⟩
set_option linter.unnecessarySimpa false
theorem Sr {α β:Type} (f:α->β): ∀ (l:List α) (i:Nat),(l.eraseIdx i).map f=(l.map f).eraseIdx i
 | [],_=>rfl
 | _::_,0=>rfl
 | a::l,i+1=>congrArg (f a:: ·) (Sr f l i)
theorem ZU {m:Cl} {at_:Nat} {c s:Bool} (h:m.fly.length=0):m.pick at_ c s=m:=by
 unfold Cl.pick;rw [List.length_eq_zero_iff.1 h];rfl
theorem Aj {m:Cl} {at_:Nat} {c s:Bool} {l:iJ} (h:m.fly[at_ % m.fly.length]? =some l):m.pick at_ c s=if c=true then (if s=true then m else { m with fly:=m.fly.eraseIdx (at_ % m.fly.length) }).come l else if s=true then m else { m with fly:=m.fly.eraseIdx (at_ % m.fly.length) }:=by
 unfold Cl.pick;rw [h]
theorem Wd.drop1 {K:CK} {B:Nat} {w0 w:World} {fs:List Fact} {m:Cl} {x:LX} {H:List LX} (h:Wd K B w0 w fs m (x::H)):Wd K B w0 w fs m H:=by
 obtain ⟨R,G,S⟩:=h;exact ⟨R,⟨G.fly,G.flo,G.lW,G.arr,λu hu=>G.hld u (List.mem_cons_of_mem _ hu)⟩,S⟩
theorem BU {K:CK} {B n kn kw:Nat} {w0 w:World} {fs:List Fact} {m:Cl} {H:List LX} {at_:Nat} {comes stays:Bool} (hn:n<5) (hkn:K.nb n=kn) (cO:K.wb=kw) (hu:Uk B w0) (hB1:m.fly.length<=1000000000) (hB2:m.aZ.length<=1000000000000) (hib: ∀ j,j<5->(m.au j).inbox.length<=1000000000) (HW:Wd K B w0 w fs m H) (uy: ∀ l∈m.fly,∃ j,j<5/\(l.tg= -1\/l.tg= -2\/l.tg=((j:Nat):Int))):
    Calls Tryz.prog 55 #[pV kw 0,iV ((at_:Nat):Int),.bool comes,.bool stays] w (λe w'=>e= .returned (.tuple #[])/\Wd K B w0 w' fs (m.pick at_ comes stays) H):=by
 obtain ⟨R,G,S0⟩:=HW.open hn;have hfl:R.fx.length=m.fly.length:=by rw [<-G.fly,List.length_map]
 have NG:=G.lW n hn;obtain ⟨X,hX⟩: ∃ X,m.au n=X:=⟨_,rfl⟩;obtain ⟨z,hz⟩: ∃ z,R.nx n=z:=⟨_,rfl⟩;rw [hX,hz] at S0 NG;have hL: ∀ f∈R.L,f∈fP K R m fs n:=λf h=>List.mem_append_right _ (List.mem_append_right _ h);obtain ⟨rr,hrr⟩: ∃ r,fP K R m fs n=r:=⟨_,rfl⟩;rw [hrr] at S0 hL;have S:St B w0 w ((bN kn n X.up z.tA X.data z.tc X.syn z.bb X.hints X.sure z.iA z.ix z.ic z.pv X.turn)::(oB z.bb z.bx)::(fL z.iA z.ix z.ic)::(bW kw (.slice R.nA 5 R.nc) m.off R.fA R.fx R.fc m.shown R.sA m.aP R.sc R.tA m.aZ R.tc m.calls)::(oL R.fA R.fx R.fc)::(oS R.sA m.aP R.sc)::(oT R.tA m.aZ R.tc)::rr):=by subst hkn;subst cO;exact S0
 clear S0;have hlen:=(S.own 1 rfl).1;rw [gX (sz:=6) (λ_=>rfl)] at hlen;refine gy 47 Tryz.func55 ?_;refine cw [0,1,2,3] ?_;refine zN 6 ?_;refine vv (ah rfl rfl (av Tryz.underlying106 rfl (St.cl 3 S rfl O5))) ?_;refine zQ ?_;by_cases h1:((R.fx.length:Nat):Int)=0
 ·refine zN 7 ?_;rw [ZU (by rw [<-hfl];omega)];exact ⟨rfl,HW⟩
 refine zN 7 ?_;obtain ⟨g2,hfA⟩:=CU (S.own 4 rfl) (by omega);have S2:=S;rw [hfA] at S2;obtain ⟨i,hit⟩: ∃ i,i=at_ % R.fx.length:=⟨_,rfl⟩;have hi:i<R.fx.length:=by rw [hit];exact Nat.mod_lt _ (by omega)
 obtain ⟨x,hx⟩: ∃ x,R.fx[i]? =some x:=⟨_,List.getElem?_eq_getElem hi⟩;have hxm:x∈R.fx:=List.mem_of_getElem? hx;have hfi:m.fly[at_ % m.fly.length]? =some x.l:=by rw [<-hfl,<-hit,<-G.fly,List.getElem?_map,hx];rfl
 refine zN 5 ?_;refine vv (ah rfl rfl (av Tryz.underlying106 rfl (St.cl 3 S2 rfl O5))) ?_;refine zQ ?_;refine vv (v:=iV ((i:Nat):Int)) (aF rfl rfl rfl (Sk hit (by omega))) ?_;refine zN 8 ?_;refine vv (ah rfl rfl (av Tryz.underlying106 rfl (St.cl 3 S2 rfl O5))) ?_;refine zQ ?_;refine vv (jX i) ?_;refine vv (ah rfl rfl (aA (cs:=LX.cells x) Tryz.underlying146 rfl vX rfl (Rd.uY (St.ord 4 S2 rfl) (λ_ _ h=>bC (enc:=LX.cells) (sz:=23) (λ_=>rfl) hx h)))) ?_;refine fO S2 aaD ?_;intro b3 w4 S5;refine sa 0 S5 vX ?_;intro w6 S7;refine zN 6 ?_
 cases hb8:(stays)
 ·refine zN 9 ?_;refine vv (ah rfl rfl (av Tryz.underlying106 rfl (St.cl 4 S7 rfl O5))) ?_;refine zN 2 ?_;refine vv (v:=iV ((i+1:Nat):Int)) jg ?_;have S9:=S7.dZ [7,7,7,7,7,7,7];refine dN arw (QF g2 R.fx.length R.fc i _ (R.fx.flatMap LX.cells) _ (S9.own 4 rfl) (ahi _) hi) ?_;rintro _ Yh ⟨rfl,aAe,aqN⟩;refine ⟨_,rfl,?_⟩;rw [Im (enc:=LX.cells) (sz:=23) (λ_=>rfl)] at aqN;have qI:=S9.aaz 4 rfl aAe aqN;refine zN 2 ?_;refine jk 3 qI AB ?_ (hs:=by exact aj1);intro HY gZ;refine zN 7 ?_
  cases aG8:(comes)
  ·refine bn (l':=[(0,pV kw 0),(9,pV b3 0),(43,.bool false)]) ⟨rfl,rfl,rfl,trivial⟩ (dD rfl (gG (aY (rs:=[]) (vs:=[]) rfl trivial ?_)));rw [Aj hfi];have Sq:R.fx.length-1=(R.fx.eraseIdx i).length:=by rw [List.length_eraseIdx,if_pos hi]
   rw [Sq] at gZ;have akR:=Wd.dL (X':=X) (z':=z) (m':={ m with fly:=m.fly.eraseIdx (at_ % m.fly.length) }) (H':=x::H) (Ls:=[.blk b3 #[iV x.l.kd,iV x.l.fr,iV x.l.tg,iV ((x.l.q:Nat):Int),iV x.l.ep,iV x.l.at_,iV x.l.nd,iV x.l.op.kind,iV x.l.op.producer,iV x.l.op.id,iV x.l.op.body,iV x.l.op.aQ,iV x.l.op.hno,.slice x.A x.l.evs.length x.c,.bool x.l.last,iV x.l.num,iV x.l.aZ.num,iV x.l.aZ.ans.code,iV x.l.aZ.ans.dQ,iV x.l.aZ.ans.hno,iV x.l.aZ.ans.body,iV x.l.aZ.pl.node,iV x.l.aZ.pl.epoch] 146]) (fA:=(aD g2 0)) (fc:=R.fc) (fx:=R.fx.eraseIdx i) (sA:=R.sA) (sc:=R.sc) (tA:=R.tA) (tc:=R.tc) hkn cO hrr G hn gZ NG.more (λu hu=> .inl (List.mem_of_mem_eraseIdx hu)) (aJ hX).symm (by rw [Sr,G.fly,hit,hfl]) (λu hu=>(List.mem_cons.1 hu).elim (λe=> .inr (e▸((G.flo x hxm).mono λf hf=>List.mem_append_left _ hf))) .inl);exact ⟨rfl,by simpa [*] using Wd.drop1 akR⟩
  refine bn (l':=[(0,pV kw 0),(9,pV b3 0),(43,.bool true)]) ⟨rfl,rfl,rfl,trivial⟩ (iT rfl (aB (vm ?_)));refine zQ ?_;have Sq:R.fx.length-1=(R.fx.eraseIdx i).length:=by rw [List.length_eraseIdx,if_pos hi]
  rw [Sq] at gZ;have aAf:=Wd.dL (X':=X) (z':=z) (m':={ m with fly:=m.fly.eraseIdx (at_ % m.fly.length) }) (H':=x::H) (Ls:=[.blk b3 #[iV x.l.kd,iV x.l.fr,iV x.l.tg,iV ((x.l.q:Nat):Int),iV x.l.ep,iV x.l.at_,iV x.l.nd,iV x.l.op.kind,iV x.l.op.producer,iV x.l.op.id,iV x.l.op.body,iV x.l.op.aQ,iV x.l.op.hno,.slice x.A x.l.evs.length x.c,.bool x.l.last,iV x.l.num,iV x.l.aZ.num,iV x.l.aZ.ans.code,iV x.l.aZ.ans.dQ,iV x.l.aZ.ans.hno,iV x.l.aZ.ans.body,iV x.l.aZ.pl.node,iV x.l.aZ.pl.epoch] 146]) (fA:=(aD g2 0)) (fc:=R.fc) (fx:=R.fx.eraseIdx i) (sA:=R.sA) (sc:=R.sc) (tA:=R.tA) (tc:=R.tc) hkn cO hrr G hn gZ NG.more (λu hu=> .inl (List.mem_of_mem_eraseIdx hu)) (aJ hX).symm (by rw [Sr,G.fly,hit,hfl]) (λu hu=>(List.mem_cons.1 hu).elim (λe=> .inr (e▸((G.flo x hxm).mono λf hf=>List.mem_append_left _ hf))) .inl);obtain ⟨nn,hnn,htt⟩: ∃ nn,nn<5/\(x.l.tg= -1\/x.l.tg= -2\/x.l.tg=((nn:Nat):Int)):=uy x.l (by rw [<-G.fly];exact List.mem_map_of_mem hxm);refine dN ajp (BS (m:={ m with fly:=m.fly.eraseIdx (at_ % m.fly.length) }) (x:=x) hnn rfl cO hu (by first | omega | (show (m.fly.eraseIdx _).length<=_;have:=List.length_eraseIdx_le m.fly (at_ % m.fly.length);omega)) hB2 (hib nn hnn) aAf htt) ?_;rintro _ FN ⟨rfl,aAg⟩;refine ⟨_,rfl,?_⟩;refine zQ ?_;refine bU (l':=[]) trivial (aY (rs:=[]) (vs:=[]) rfl trivial ?_);rw [Aj hfi];exact ⟨rfl,by simpa [*] using aAg⟩
 refine zN 11 ?_
 cases aG9:(comes)
 ·refine bn (l':=[(0,pV kw 0),(9,pV b3 0),(43,.bool false)]) ⟨rfl,rfl,rfl,trivial⟩ (dD rfl (gG (aY (rs:=[]) (vs:=[]) rfl trivial ?_)));rw [Aj hfi];have iI:=S7.dZ [7,7,7,7,7,7,7];rw [<-hfA] at iI;have aAh:=Wd.dL (X':=X) (z':=z) (m':=m) (H':=x::H) (Ls:=[.blk b3 #[iV x.l.kd,iV x.l.fr,iV x.l.tg,iV ((x.l.q:Nat):Int),iV x.l.ep,iV x.l.at_,iV x.l.nd,iV x.l.op.kind,iV x.l.op.producer,iV x.l.op.id,iV x.l.op.body,iV x.l.op.aQ,iV x.l.op.hno,.slice x.A x.l.evs.length x.c,.bool x.l.last,iV x.l.num,iV x.l.aZ.num,iV x.l.aZ.ans.code,iV x.l.aZ.ans.dQ,iV x.l.aZ.ans.hno,iV x.l.aZ.ans.body,iV x.l.aZ.pl.node,iV x.l.aZ.pl.epoch] 146]) (fA:=R.fA) (fc:=R.fc) (fx:=R.fx) (sA:=R.sA) (sc:=R.sc) (tA:=R.tA) (tc:=R.tc) hkn cO hrr G hn iI NG.more (λu hu=> .inl hu) (aJ hX).symm G.fly.symm (λu hu=>(List.mem_cons.1 hu).elim (λe=> .inr (e▸((G.flo x hxm).mono λf hf=>List.mem_append_left _ hf))) .inl);exact ⟨rfl,by simpa [*] using Wd.drop1 aAh⟩
 refine bn (l':=[(0,pV kw 0),(9,pV b3 0),(43,.bool true)]) ⟨rfl,rfl,rfl,trivial⟩ (iT rfl (aB (vm ?_)));refine zQ ?_;have jy:=S7.dZ [7,7,7,7,7,7,7];rw [<-hfA] at jy;have aAi:=Wd.dL (X':=X) (z':=z) (m':=m) (H':=x::H) (Ls:=[.blk b3 #[iV x.l.kd,iV x.l.fr,iV x.l.tg,iV ((x.l.q:Nat):Int),iV x.l.ep,iV x.l.at_,iV x.l.nd,iV x.l.op.kind,iV x.l.op.producer,iV x.l.op.id,iV x.l.op.body,iV x.l.op.aQ,iV x.l.op.hno,.slice x.A x.l.evs.length x.c,.bool x.l.last,iV x.l.num,iV x.l.aZ.num,iV x.l.aZ.ans.code,iV x.l.aZ.ans.dQ,iV x.l.aZ.ans.hno,iV x.l.aZ.ans.body,iV x.l.aZ.pl.node,iV x.l.aZ.pl.epoch] 146]) (fA:=R.fA) (fc:=R.fc) (fx:=R.fx) (sA:=R.sA) (sc:=R.sc) (tA:=R.tA) (tc:=R.tc) hkn cO hrr G hn jy NG.more (λu hu=> .inl hu) (aJ hX).symm G.fly.symm (λu hu=>(List.mem_cons.1 hu).elim (λe=> .inr (e▸((G.flo x hxm).mono λf hf=>List.mem_append_left _ hf))) .inl);obtain ⟨nn,hnn,htt⟩: ∃ nn,nn<5/\(x.l.tg= -1\/x.l.tg= -2\/x.l.tg=((nn:Nat):Int)):=uy x.l (by rw [<-G.fly];exact List.mem_map_of_mem hxm);refine dN ajp (BS (m:=m) (x:=x) hnn rfl cO hu (by first | omega | (show (m.fly.eraseIdx _).length<=_;have:=List.length_eraseIdx_le m.fly (at_ % m.fly.length);omega)) hB2 (hib nn hnn) aAi htt) ?_;rintro _ LB ⟨rfl,aAj⟩;refine ⟨_,rfl,?_⟩;refine zQ ?_;refine bU (l':=[]) trivial (aY (rs:=[]) (vs:=[]) rfl trivial ?_);rw [Aj hfi];exact ⟨rfl,by simpa [*] using aAj⟩
theorem ZV {calls:Nat} {nv fv sv tv x:Value} {d:Dir} {sh:Nat->Nat->Int×Int}:dn (kN nv d fv sh sv tv calls) 0 [x]=kN x d fv sh sv tv calls:=Gc (Nat.le_of_ble_eq_true rfl) rfl
theorem St.flip {B:Nat} {w0 w:World} {gs fs:List Fact} (S:St B w0 w (gs++fs)):St B w0 w (fs++gs):=S.perm List.perm_append_comm
def aja (a b c d e:Nat):Nat->Nat
 | 0=>a
 | 1=>b
 | 2=>c
 | 3=>d
 | _=>e
theorem MI {L:List Fact}: ∀ y∈ru,Aa L y:=λy hy=>by
 have:y=Oi:=by simpa [ru] using hy
 subst this;exact ⟨Ro.none_,Nat.zero_le _⟩
theorem Ry {B:Nat} {w0 w:World} {fs:List Fact} (S:St B w0 w fs) (hu:Uk B w0):
    Calls Tryz.prog 36 #[] w (λe w'=> ∃ K:CK,e= .returned (pV K.wb 0)/\Wd K B w0 w' fs zW []):=by
 refine gy 27 Tryz.func36 ?_;refine bn (l':=[]) trivial (aH (aB (va ?_)));refine zN 4 ?_;refine dN avO (UG _ (Uk.nw hu S)) ?_;rintro _ w1 ⟨rfl,hb3⟩;refine ⟨_,rfl,?_⟩;have S2:=S.on hb3;refine vv (v:= .agg (kN (.slice none 0 0) (⟨nowhere,nowhere,nowhere,nowhere⟩:Dir) (.slice none 0 0) (λ_ _=>(0,0)) (.slice none 0 0) (.slice none 0 0) 0)) fT ?_;refine iC S2 ?_;intro b4 w5 S6;refine zN 10 ?_;refine MG (lY (aH (aB (vv Ba ?_))));refine zN 17 ?_;refine vv (v:= .agg (dK 0 true (.slice none 0 0) 0 (.slice none 0 0) (λ_=>(⟨0,0⟩:Pl)) (λ_=>false) (.slice none 0 0) (.nilFunc) 0)) fT ?_;refine iC S6 ?_;intro b7 w8 S9;refine zN 6 ?_;refine dN OJ (mO S9 hu) ?_;rintro _ FM ⟨rfl,aAk,lN⟩;refine ⟨_,rfl,?_⟩;refine zN 2 ?_;have wX:=lN.nil 113 1;refine zN 5 ?_;refine vv (ah rfl rfl (av Tryz.underlying105 rfl (St.cl 3 wX rfl yK))) ?_;refine zQ ?_;refine bsI wX ?_;intro b14 Jt lV;refine dI (news:=[pV b7 0]) (xs':=[gJ b7]) 1 lV (wn rfl) rfl rfl rfl rfl rfl rfl (St.lC (xs:=[pV b7 0]) 0 lV rfl rfl rfl) Tryz.underlying105 Cj rfl (by decide) (bL rfl) (by simp only [maxLen];omega) (by omega) rfl ?_;intro KF c18 FN hc21 aHa nJ;refine zN 2 ?_;refine jk 4 nJ DJ ?_ (hs:=by exact ZV);intro Jp jy;refine zN 4 ?_;refine vv (v:=iV 1) jg ?_;refine zN 2 ?_;refine oW (lY (aH (aB (vv Ba ?_))));refine zN 17 ?_;refine vv (v:= .agg (dK 1 true (.slice none 0 0) 0 (.slice none 0 0) (λ_=>(⟨0,0⟩:Pl)) (λ_=>false) (.slice none 0 0) (.nilFunc) 0)) fT ?_;refine iC jy ?_;intro Pw LB rW;refine zN 6 ?_;refine dN OJ (mO rW hu) ?_;rintro _ w29 ⟨rfl,aAl,yB⟩;refine ⟨_,rfl,?_⟩;refine zN 7 ?_;refine vv (ah rfl rfl (av Tryz.underlying105 rfl (St.cl 6 yB rfl yK))) ?_;refine zQ ?_;refine bsI yB ?_;intro b31 w32 qK;refine dI (news:=[pV Pw 0]) (xs':=[gJ b7,gJ Pw]) 4 qK (wn rfl) rfl rfl rfl rfl rfl rfl (St.lC (xs:=[pV Pw 0]) 0 qK rfl rfl rfl) Tryz.underlying105 Cj rfl (by decide) (bL rfl) (by simp only [maxLen];omega) (by omega) rfl ?_;intro A34 c35 w36 hc38 axU pK;refine zN 2 ?_;refine jk 7 pK DJ ?_ (hs:=by exact ZV);intro w40 Hw;refine zN 4 ?_;refine vv (v:=iV 2) jg ?_;refine zN 2 ?_;refine oW (lY (aH (aB (vv Ba ?_))));refine zN 17 ?_;refine vv (v:= .agg (dK 2 true (.slice none 0 0) 0 (.slice none 0 0) (λ_=>(⟨0,0⟩:Pl)) (λ_=>false) (.slice none 0 0) (.nilFunc) 0)) fT ?_;refine iC Hw ?_;intro WX w43 DX;refine zN 6 ?_;refine dN OJ (mO DX hu) ?_;rintro _ Wy ⟨rfl,aAm,xY⟩;refine ⟨_,rfl,?_⟩;refine zN 7 ?_;refine vv (ah rfl rfl (av Tryz.underlying105 rfl (St.cl 9 xY rfl yK))) ?_;refine zQ ?_;refine bsI xY ?_;intro WJ w49 wm;refine dI (news:=[pV WX 0]) (xs':=[gJ b7,gJ Pw,gJ WX]) 7 wm (wn rfl) rfl rfl rfl rfl rfl rfl (St.lC (xs:=[pV WX 0]) 0 wm rfl rfl rfl) Tryz.underlying105 Cj rfl (by decide) (bL rfl) (by simp only [maxLen];omega) (by omega) rfl ?_;intro A51 c52 w53 aHb aHc mD;refine zN 2 ?_;refine jk 10 mD DJ ?_ (hs:=by exact ZV);intro w57 Bz;refine zN 4 ?_;refine vv (v:=iV 3) jg ?_;refine zN 2 ?_;refine oW (lY (aH (aB (vv Ba ?_))));refine zN 17 ?_;refine vv (v:= .agg (dK 3 true (.slice none 0 0) 0 (.slice none 0 0) (λ_=>(⟨0,0⟩:Pl)) (λ_=>false) (.slice none 0 0) (.nilFunc) 0)) fT ?_
 refine iC Bz ?_;intro Sj WE DY;refine zN 6 ?_;refine dN OJ (mO DY hu) ?_;rintro _ w63 ⟨rfl,aAn,S64⟩;refine ⟨_,rfl,?_⟩;refine zN 7 ?_;refine vv (ah rfl rfl (av Tryz.underlying105 rfl (St.cl 12 S64 rfl yK))) ?_;refine zQ ?_;refine bsI S64 ?_;intro b65 R6 sI;refine dI (news:=[pV Sj 0]) (xs':=[gJ b7,gJ Pw,gJ WX,gJ Sj]) 10 sI (wn rfl) rfl rfl rfl rfl rfl rfl (St.lC (xs:=[pV Sj 0]) 0 sI rfl rfl rfl) Tryz.underlying105 Cj rfl (by decide) (bL rfl) (by simp only [maxLen];omega) (by omega) rfl ?_;intro A68 c69 XZ aHd aHe rz;refine zN 2 ?_;refine jk 13 rz DJ ?_ (hs:=by exact ZV);intro w74 EC;refine zN 4 ?_;refine vv (v:=iV 4) jg ?_;refine zN 2 ?_;refine oW (lY (aH (aB (vv Ba ?_))));refine zN 17 ?_;refine vv (v:= .agg (dK 4 true (.slice none 0 0) 0 (.slice none 0 0) (λ_=>(⟨0,0⟩:Pl)) (λ_=>false) (.slice none 0 0) (.nilFunc) 0)) fT ?_;refine iC EC ?_;intro b76 w77 H6;refine zN 6 ?_;refine dN OJ (mO H6 hu) ?_;rintro _ w80 ⟨rfl,aAo,tK⟩;refine ⟨_,rfl,?_⟩;refine zN 7 ?_;refine vv (ah rfl rfl (av Tryz.underlying105 rfl (St.cl 15 tK rfl yK))) ?_;refine zQ ?_;refine bsI tK ?_;intro b82 w83 DZ;refine dI (news:=[pV b76 0]) (xs':=[gJ b7,gJ Pw,gJ WX,gJ Sj,gJ b76]) 13 DZ (wn rfl) rfl rfl rfl rfl rfl rfl (St.lC (xs:=[pV b76 0]) 0 DZ rfl rfl rfl) Tryz.underlying105 Cj rfl (by decide) (bL rfl) (by simp only [maxLen];omega) (by omega) rfl ?_;intro A85 c86 w87 aHf aHg KD;refine zN 2 ?_;refine jk 16 KD DJ ?_ (hs:=by exact ZV);intro w91 xW;refine zN 4 ?_;refine vv (v:=iV 5) jg ?_;refine zN 2 ?_;refine oW (lY (aH (aB (vv aaA ?_))));refine zN 17 ?_;have Bv:St _ _ _ (_::_::_::_::_::_::_::_::_::_::_::_::_::_::_::_::_::fs):=xW.bD 13 rfl;have FL:=Bv.aT [12,9,6,3,0];have Jv:=FL.nil 81 7;have Co:=Jv.nil 60 14;have D5:=Co.nil 146 23;have BF:=D5.AL 146 23;have XT:=BF.AL 146 23;have qR:=XT.AL 146 23;have sN:=qR.AL 146 23;have rG:=sN.AL 146 23;have oP:=rG.dZ [16];have uT:=oP.dZ [5];have qU:=uT.dZ [10];have yN:=qU.dZ [10];have uR:=yN.dZ [7];have uf:=uR.dZ [12];have kS:=uf.dZ [12];have qg:=kS.dZ [9];have ED:=qg.dZ [14];have uS:=ED.dZ [14];have mW:=uS.dZ [11];have Da:=mW.dZ [16];have qm:=Da.dZ [16];have xC:=qm.dZ [13];have yM:=xC.dZ [18];have uQ:=yM.dZ [18];have rJ:=uQ.dZ [18];have pR:=rJ.dZ [18];have yI:=pR.dZ [18];have Bh:=yI.dZ [19];refine ⟨⟨b4,aja b7 Pw WX Sj b76⟩,rfl,⟨λj=>⟨aja aAk aAl aAm aAn aAo j,none,0,ru,none,0,[],.nilFunc⟩,none,0,[],none,0,none,0,A85,c86,[.cZ 1 A85 5 [gJ b7,gJ Pw,gJ WX,gJ Sj,gJ b76]]⟩,?_,St.flip (gs:=[_,_,_,_,_,_,_,_,_,_,_,_,_,_,_,_,_,_,_,_]) (fs:=fs) Bh⟩;exact ⟨rfl,λx hx=>(by cases hx),λn hn=>⟨rfl,MI,Ro.none_,rfl,λy hy=>(by cases hy),rfl⟩,Ro.cZ (List.mem_singleton.2 rfl),λx hx=>(by cases hx)⟩
section
variable {m mm:Cl} {n q k:Nat} {a:Ac} {PW:Pl×Int} {T S D K:Nat} {x:iJ} {fl:List iJ}
theorem ahA (h:bO m.off q=PW): ∃ nn,nn<5/\(PW.2=0->PW.1.node=((nn:Nat):Int)):=by
 subst h;by_cases c:(bO m.off q).2=0
 ·obtain ⟨h1,h2,_⟩:=JE (λh=>h c);exact ⟨_,h1,λ_=>by omega⟩
 exact ⟨0,by omega,λh=>absurd h c⟩
theorem adK (h:fQ m T S D K):fQ { m with fly:=[] } (T+0) S (D+0) K:=by
 refine ⟨h.lW,λl hl=>(by simp at hl),h.kU,?_,h.aP,h.aZ,h.turn,h.calls⟩;have:=h.room;unfold Cl.tot at this⊢;dsimp only [List.length_nil];omega
theorem adL (h:fl[k]? =some x):(fl.drop k).foldl Cl.come mm=(fl.drop (k+1)).foldl Cl.come (mm.come x):=by rw [drop_cons h,List.foldl_cons]
theorem adM (h:a.kd=1) (hn:a.nd=((n:Nat):Int)) (hq:a.qu=((q:Nat):Int)):m.act a=m.make n q:=by
 unfold Cl.act;rw [if_pos h,hn,hq,Int.toNat_natCast,Int.toNat_natCast]
theorem adN (h:a.kd=2) (hq:a.qu=((q:Nat):Int)):m.act a={ m with fly:=m.fly++[Tk a.nd q a.op m.calls],calls:=m.calls+1 }:=by
 unfold Cl.act;rw [if_neg (by omega),if_pos h,hq,Int.toNat_natCast]
theorem adO (h:a.kd=3) (hn:a.nd=((n:Nat):Int)):m.act a=m.step n:=by
 unfold Cl.act;rw [if_neg (by omega),if_neg (by omega),if_pos h,hn,Int.toNat_natCast]
theorem IW (h:a.kd=4\/a.kd=5\/a.kd=6):m.act a=m.pick a.at_.toNat (decide (a.kd≠5)) (decide (a.kd=6)):=by
 unfold Cl.act;rw [if_neg (by omega),if_neg (by omega),if_neg (by omega),if_pos h]
theorem ahB (h:a.kd=4):m.act a=m.pick a.at_.toNat true false:=by rw [IW (.inl h),h];rfl
theorem ahC (h:a.kd=5):m.act a=m.pick a.at_.toNat false false:=by rw [IW (.inr (.inl h)),h];rfl
theorem ahD (h:a.kd=6):m.act a=m.pick a.at_.toNat true true:=by rw [IW (.inr (.inr h)),h];rfl
theorem ahE (h:a.kd=7):m.act a=m.all:=by
 unfold Cl.act;rw [if_neg (by omega),if_neg (by omega),if_neg (by omega),if_neg (by omega),if_pos h]
theorem MJ (h:a.kd=8) (hn:a.nd=((n:Nat):Int)):m.act a=m.crash n a.kp:=by
 unfold Cl.act;rw [if_neg (by omega),if_neg (by omega),if_neg (by omega),if_neg (by omega),if_neg (by omega),if_pos h,hn,Int.toNat_natCast]
theorem ZW (h:a.kd=9) (hn:a.nd=((n:Nat):Int)):m.act a=m.start n:=by
 unfold Cl.act;rw [if_neg (by omega),if_neg (by omega),if_neg (by omega),if_neg (by omega),if_neg (by omega),if_neg (by omega),if_pos h,hn,Int.toNat_natCast]
theorem ZX (h:a.kd≠1) (h2:a.kd≠2) (h3:a.kd≠3) (h4:a.kd≠4) (h5:a.kd≠5) (h6:a.kd≠6) (h7:a.kd≠7) (h8:a.kd≠8) (h9:a.kd≠9) (hq:a.qu=((q:Nat):Int)):m.act a=m.move q a.nd:=by
 unfold Cl.act;rw [if_neg h,if_neg h2,if_neg h3,if_neg (by omega),if_neg h7,if_neg h8,if_neg h9,hq,Int.toNat_natCast]
theorem adP (h:(m.au n).up=true) {kp:Int}:m.crash n kp=m.put n ((m.au n).crashed kp):=if_pos h
theorem ZY (h:(m.au n).up=false) {kp:Int}:m.crash n kp=m:=by
 unfold Cl.crash;rw [if_neg (by rw [h];simp)]
end
theorem adQ {K:CK} {B n kn kw:Nat} {w0 w:World} {fs:List Fact} {m:Cl} {H:List LX} {q k:Nat} {a:Ac} (hn:n<5) (hq:q<4) (hnd:a.nd=((n:Nat):Int)) (hqd:a.qu=((q:Nat):Int)) (hkn:K.nb n=kn) (cO:K.wb=kw) (hu:Uk B w0) (HW:Wd K B w0 w fs m H) (pY:fQ m (4*k) (500000*k) (500000*k) k) (hk:k<=100000) (ha:J6 a) (hsh:ShN m):
    Calls Tryz.prog 37 #[pV kw 0,.agg #[iV a.kd,iV a.nd,iV a.qu,iV a.at_,iV a.kp,iV a.ek,iV a.ep,iV a.ei,iV a.eb,iV a.eh,iV a.en]] w (λe w'=>e= .returned (.tuple #[])/\Wd K B w0 w' fs (m.act a) H):=by
 obtain ⟨R,G,S0⟩:=HW.open hn;have hfl:R.fx.length=m.fly.length:=by rw [<-G.fly,List.length_map]
 have NG:=G.lW n hn;obtain ⟨X,hX⟩: ∃ X,m.au n=X:=⟨_,rfl⟩;obtain ⟨z,hz⟩: ∃ z,R.nx n=z:=⟨_,rfl⟩;rw [hX,hz] at S0 NG;have hL: ∀ f∈R.L,f∈fP K R m fs n:=λf h=>List.mem_append_right _ (List.mem_append_right _ h);obtain ⟨rr,hrr⟩: ∃ r,fP K R m fs n=r:=⟨_,rfl⟩;rw [hrr] at S0 hL;have S:St B w0 w ((bN kn n X.up z.tA X.data z.tc X.syn z.bb X.hints X.sure z.iA z.ix z.ic z.pv X.turn)::(oB z.bb z.bx)::(fL z.iA z.ix z.ic)::(bW kw (.slice R.nA 5 R.nc) m.off R.fA R.fx R.fc m.shown R.sA m.aP R.sc R.tA m.aZ R.tc m.calls)::(oL R.fA R.fx R.fc)::(oS R.sA m.aP R.sc)::(oT R.tA m.aZ R.tc)::rr):=by subst hkn;subst cO;exact S0
 clear S0 HW;have hlen:=(S.own 1 rfl).1;rw [gX (sz:=6) (λ_=>rfl)] at hlen;obtain ⟨ab,ao,pX⟩:=Ag G.arr S (memT 7 rfl hL);have harr:=G.arr;rw [pX] at S harr;have hcl:=pY.calls;have aHh:=pY.fl;have akS:a.at_=((a.at_.toNat:Nat):Int):=by have:=ha.at_;omega
 refine gy 144 Tryz.func37 ?_;refine cw [0,1] ?_;refine zN 2 ?_;refine iC S ?_;intro b1 w2 S3;refine zN 11 ?_;by_cases h4:a.kd=1
 ·refine zN 5 ?_;have S5:St B w0 w2 [.blk b1 #[iV a.kd,iV a.nd,iV a.qu,iV a.at_,iV a.kp,iV a.ek,iV a.ep,iV a.ei,iV a.eb,iV a.eh,iV a.en] 69]:=S3.sub (List.Sublist.cons_cons _ (List.nil_sublist _));have Sv:=S3.drew;have S6:=S5.drew;refine aK 12 S6 [] ?_;refine aL 5 ?_;refine ak (v:=iV ((n:Nat):Int)) 6 rfl S6 (λ_ akJ=>(Ah hnd (ah rfl rfl (av Tryz.underlying3 rfl (St.cl 0 akJ rfl rfl))))) ?_;refine dG ?_;refine ak (v:=iV ((q:Nat):Int)) 10 rfl S6 (λ_ ajE=>(Ah hqd (ah rfl rfl (av Tryz.underlying3 rfl (St.cl 0 ajE rfl rfl))))) ?_;refine aX 4 ?_;refine gY (i:=4) rfl rfl (v:= .slice (aD ab ao) 5 R.nc) (wn rfl) rfl rfl (ah rfl rfl (av Tryz.underlying105 rfl (St.cl 4 Sv rfl yK))) ?_;refine dG ?_;refine ak 7 rfl S6 (λ_ _=>jX n) ?_;refine aX 8 ?_;refine gY (i:=8) rfl rfl (v:=pV kn 0) (wn rfl) rfl rfl (ah rfl rfl (av Tryz.underlying113 rfl (hkn▸uE harr hn Sv (memT 8 rfl hL)))) ?_;refine dG ?_;refine aX 11 ?_;have lV:=Sv.dZ [7,7,7,7,7,7,7];have iQ:=lV;rw [<-pX] at iQ;have akR:=Wd.dL (m:=m) (m':=m) (H:=H) (H':=H) (fs:=(.blk b1 #[iV a.kd,iV a.nd,iV a.qu,iV a.at_,iV a.kp,iV a.ek,iV a.ep,iV a.ei,iV a.eb,iV a.eh,iV a.en] 69)::fs) (X':=X) (z':=z) (Ls:=[]) (fA:=R.fA) (fc:=R.fc) (fx:=R.fx) (sA:=R.sA) (sc:=R.sc) (tA:=R.tA) (tc:=R.tc) (rr:=(.blk b1 #[iV a.kd,iV a.nd,iV a.qu,iV a.at_,iV a.kp,iV a.ek,iV a.ep,iV a.ei,iV a.eb,iV a.eh,iV a.en] 69)::rr) hkn cO (by rw [<-hrr]<;>rfl) G hn iQ NG.more (λu hu=> .inl hu) (aJ hX).symm G.fly.symm mI;refine jC 11 rfl avP (Vp hn hkn cO hu (by have:=pY.fl;omega) (by have:=pY.aP;omega) hq akR (pY.lW n hn).nN (λrs d h=>(pY.lW n hn).azA h)) ?_;rintro _ WG ⟨rfl,aqO⟩;refine ⟨_,rfl,?_⟩;have r9:=Wd.vo (gs:=[.blk b1 #[iV a.kd,iV a.nd,iV a.qu,iV a.at_,iV a.kp,iV a.ek,iV a.ep,iV a.ei,iV a.eb,iV a.eh,iV a.en] 69]) aqO;refine aL 2 ?_;refine bU (l':=[]) trivial (bY (aY (rs:=[]) (vs:=[]) rfl trivial ?_));rw [adM (by assumption) hnd hqd];exact ⟨rfl,(Wd.less (gs:=[.blk b1 #[iV a.kd,iV a.nd,iV a.qu,iV a.at_,iV a.kp,iV a.ek,iV a.ep,iV a.ei,iV a.eb,iV a.eh,iV a.en] 69]) aqO)⟩
 refine zN 7 ?_;by_cases h22:a.kd=2
 ·refine zN 6 ?_;have lQ:=S3.dZ [5,5];have jy:=lQ.drew;refine aK 14 jy [1,0] ?_;refine aL 4 ?_;refine ak (v:=iV ((q:Nat):Int)) 4 rfl (jy.kL [1,0]) (λ_ Zy=>(Ah hqd (ah rfl rfl (av Tryz.underlying3 rfl (St.cl 0 Zy rfl rfl))))) ?_;refine dG ?_;refine ak (v:= .agg #[iV a.ek,iV a.ep,iV a.ei,iV a.eb,iV a.eh,iV a.en]) 6 rfl (jy.kL [1,0]) (λ_ Yg=>(ah rfl rfl (aA (cs:=[iV a.ek,iV a.ep,iV a.ei,iV a.eb,iV a.eh,iV a.en]) Tryz.underlying55 rfl iy rfl (St.rg 0 Yg rfl (je (x:=5) (m:=6) rfl))))) ?_;refine aL 4 ?_;refine aX 11 ?_;refine gY (i:=11) rfl rfl (v:=iV ((m.calls:Nat):Int)) (wn rfl) rfl rfl (ah rfl rfl (av Tryz.underlying3 rfl (St.cl 0 jy rfl aiK))) ?_;refine dG ?_;refine ak (v:= .agg #[iV 0,iV (-1),iV a.nd,iV ((q:Nat):Int),iV 0,iV 0,iV 0,iV a.ek,iV a.ep,iV a.ei,iV a.eb,iV a.eh,iV a.en,.slice none 0 0,.bool false,iV ((m.calls:Nat):Int),iV 0,iV 0,iV 0,iV 0,iV 0,iV 0,iV 0]) 12 rfl (jy.kL [1,0]) (λ_ _=>fT) ?_;refine aX 13 ?_;refine jC 13 rfl xk (gL (x:=⟨Tk a.nd q a.op m.calls,none,0⟩) jy (by have:=pY.fl;omega)) ?_;rintro _ w41 ⟨rfl,A37,c38,apF,aj4,uL⟩;refine ⟨_,rfl,?_⟩;refine aL 2 ?_;refine zN 6 ?_;refine vv (ah rfl rfl (av Tryz.underlying3 rfl (St.cl 0 uL rfl aiK))) ?_;refine vv (v:=iV ((m.calls+1:Nat):Int)) jg ?_;refine zN 3 ?_;refine jk 0 uL mU ?_ (hs:=by exact asG);intro w43 DX;refine zQ ?_;refine bU (l':=[]) trivial (bY (aY (rs:=[]) (vs:=[]) rfl trivial ?_));rw [adN (by assumption) hqd];subst aj4;have nI:=DX.aT [2];have qL:=nI.dZ [6,6,3,3,6,6,6];rw [<-pX] at qL;exact ⟨rfl,Wd.dL (X':=X) (z':=z) (Ls:=[]) (fA:=A37) (fc:=c38) (fx:=R.fx++[(⟨Tk a.nd q a.op m.calls,none,0⟩:LX)]) (sA:=R.sA) (sc:=R.sc) (tA:=R.tA) (tc:=R.tc) hkn cO hrr G hn qL NG.more (nR (iF rfl)) (aJ hX).symm (by rw [List.map_append,G.fly];rfl) mI⟩
 refine zN 7 ?_;by_cases h47:a.kd=3
 ·refine zN 5 ?_;have uZ:St B w0 w2 [.blk b1 #[iV a.kd,iV a.nd,iV a.qu,iV a.at_,iV a.kp,iV a.ek,iV a.ep,iV a.ei,iV a.eb,iV a.eh,iV a.en] 69]:=S3.sub (List.Sublist.cons_cons _ (List.nil_sublist _));have Sv:=S3.drew;have sK:=uZ.drew;refine aK 10 sK [] ?_;refine aL 5 ?_;refine ak (v:=iV ((n:Nat):Int)) 6 rfl sK (λ_ aj6=>(Ah hnd (ah rfl rfl (av Tryz.underlying3 rfl (St.cl 0 aj6 rfl rfl))))) ?_;refine aX 4 ?_;refine gY (i:=4) rfl rfl (v:= .slice (aD ab ao) 5 R.nc) (wn rfl) rfl rfl (ah rfl rfl (av Tryz.underlying105 rfl (St.cl 4 Sv rfl yK))) ?_;refine dG ?_;refine ak 7 rfl sK (λ_ _=>jX n) ?_;refine aX 8 ?_;refine gY (i:=8) rfl rfl (v:=pV kn 0) (wn rfl) rfl rfl (ah rfl rfl (av Tryz.underlying113 rfl (hkn▸uE harr hn Sv (memT 8 rfl hL)))) ?_;refine dG ?_;refine aX 9 ?_;have qh:=Sv.dZ [7,7,7,7,7,7,7];have zS:=qh;rw [<-pX] at zS;have aAp:=Wd.dL (m:=m) (m':=m) (H:=H) (H':=H) (fs:=(.blk b1 #[iV a.kd,iV a.nd,iV a.qu,iV a.at_,iV a.kp,iV a.ek,iV a.ep,iV a.ei,iV a.eb,iV a.eh,iV a.en] 69)::fs) (X':=X) (z':=z) (Ls:=[]) (fA:=R.fA) (fc:=R.fc) (fx:=R.fx) (sA:=R.sA) (sc:=R.sc) (tA:=R.tA) (tc:=R.tc) (rr:=(.blk b1 #[iV a.kd,iV a.nd,iV a.qu,iV a.at_,iV a.kp,iV a.ek,iV a.ep,iV a.ei,iV a.eb,iV a.eh,iV a.en] 69)::rr) hkn cO (by rw [<-hrr]<;>rfl) G hn zS NG.more (λu hu=> .inl hu) (aJ hX).symm G.fly.symm mI;refine jC 9 rfl avQ (Vo hn hkn cO hu (by have:=pY.fi hn;omega) (by have:=pY.aP;have:=pY.il hn;omega) (by have:=pY.turn n hn;omega) aAp (pY.lW n hn).nN (λl hl=>IK (pY.kU n hn l hl)) (λp h=>(pY.lW n hn).fit h)) ?_;rintro _ w61 ⟨rfl,aqP⟩;refine ⟨_,rfl,?_⟩;have Hz:=Wd.vo (gs:=[.blk b1 #[iV a.kd,iV a.nd,iV a.qu,iV a.at_,iV a.kp,iV a.ek,iV a.ep,iV a.ei,iV a.eb,iV a.eh,iV a.en] 69]) aqP;refine aL 2 ?_;refine bU (l':=[]) trivial (bY (aY (rs:=[]) (vs:=[]) rfl trivial ?_));rw [adO (by assumption) hnd];exact ⟨rfl,(Wd.less (gs:=[.blk b1 #[iV a.kd,iV a.nd,iV a.qu,iV a.at_,iV a.kp,iV a.ek,iV a.ep,iV a.ei,iV a.eb,iV a.eh,iV a.en] 69]) aqP)⟩
 refine zN 8 ?_;by_cases h63:a.kd=4
 ·refine zN 11 ?_;refine vv (v:=iV ((a.at_.toNat:Nat):Int)) (Ah akS (ah rfl rfl (av Tryz.underlying3 rfl (St.cl 0 S3 rfl rfl)))) ?_;refine zN 6 ?_;have S64:=S3.dZ [7,7,7,7,7,7,7];have EJ:=S64;rw [<-pX] at EJ;have aex:=Wd.dL (m:=m) (m':=m) (H:=H) (H':=H) (fs:=(.blk b1 #[iV a.kd,iV a.nd,iV a.qu,iV a.at_,iV a.kp,iV a.ek,iV a.ep,iV a.ei,iV a.eb,iV a.eh,iV a.en] 69)::fs) (X':=X) (z':=z) (Ls:=[]) (fA:=R.fA) (fc:=R.fc) (fx:=R.fx) (sA:=R.sA) (sc:=R.sc) (tA:=R.tA) (tc:=R.tc) (rr:=(.blk b1 #[iV a.kd,iV a.nd,iV a.qu,iV a.at_,iV a.kp,iV a.ek,iV a.ep,iV a.ei,iV a.eb,iV a.eh,iV a.en] 69)::rr) hkn cO (by rw [<-hrr]<;>rfl) G hn EJ NG.more (λu hu=> .inl hu) (aJ hX).symm G.fly.symm mI;refine dN ajo (BU hn hkn cO hu (by have:=pY.fl;omega) (by have:=pY.aZ;omega) (λj hj=>by have:=pY.il hj;omega) aex (λl hl=>(pY.wY l hl).tgt)) ?_;rintro _ w68 ⟨rfl,Zu⟩;refine ⟨_,rfl,?_⟩;have uw:=Wd.vo (gs:=[.blk b1 #[iV a.kd,iV a.nd,iV a.qu,iV a.at_,iV a.kp,iV a.ek,iV a.ep,iV a.ei,iV a.eb,iV a.eh,iV a.en] 69]) Zu;refine zQ ?_;refine bU (l':=[]) trivial (bY (aY (rs:=[]) (vs:=[]) rfl trivial ?_));rw [ahB (by assumption)];exact ⟨rfl,(Wd.less (gs:=[.blk b1 #[iV a.kd,iV a.nd,iV a.qu,iV a.at_,iV a.kp,iV a.ek,iV a.ep,iV a.ei,iV a.eb,iV a.eh,iV a.en] 69]) Zu)⟩
 refine zN 7 ?_;by_cases h70:a.kd=5
 ·refine zN 11 ?_;refine vv (v:=iV ((a.at_.toNat:Nat):Int)) (Ah akS (ah rfl rfl (av Tryz.underlying3 rfl (St.cl 0 S3 rfl rfl)))) ?_;refine zN 6 ?_;have rz:=S3.dZ [7,7,7,7,7,7,7];have rY:=rz;rw [<-pX] at rY;have aAq:=Wd.dL (m:=m) (m':=m) (H:=H) (H':=H) (fs:=(.blk b1 #[iV a.kd,iV a.nd,iV a.qu,iV a.at_,iV a.kp,iV a.ek,iV a.ep,iV a.ei,iV a.eb,iV a.eh,iV a.en] 69)::fs) (X':=X) (z':=z) (Ls:=[]) (fA:=R.fA) (fc:=R.fc) (fx:=R.fx) (sA:=R.sA) (sc:=R.sc) (tA:=R.tA) (tc:=R.tc) (rr:=(.blk b1 #[iV a.kd,iV a.nd,iV a.qu,iV a.at_,iV a.kp,iV a.ek,iV a.ep,iV a.ei,iV a.eb,iV a.eh,iV a.en] 69)::rr) hkn cO (by rw [<-hrr]<;>rfl) G hn rY NG.more (λu hu=> .inl hu) (aJ hX).symm G.fly.symm mI;refine dN ajo (BU hn hkn cO hu (by have:=pY.fl;omega) (by have:=pY.aZ;omega) (λj hj=>by have:=pY.il hj;omega) aAq (λl hl=>(pY.wY l hl).tgt)) ?_;rintro _ w75 ⟨rfl,aqQ⟩;refine ⟨_,rfl,?_⟩;have Hu:=Wd.vo (gs:=[.blk b1 #[iV a.kd,iV a.nd,iV a.qu,iV a.at_,iV a.kp,iV a.ek,iV a.ep,iV a.ei,iV a.eb,iV a.eh,iV a.en] 69]) aqQ;refine zQ ?_;refine bU (l':=[]) trivial (bY (aY (rs:=[]) (vs:=[]) rfl trivial ?_));rw [ahC (by assumption)];exact ⟨rfl,(Wd.less (gs:=[.blk b1 #[iV a.kd,iV a.nd,iV a.qu,iV a.at_,iV a.kp,iV a.ek,iV a.ep,iV a.ei,iV a.eb,iV a.eh,iV a.en] 69]) aqQ)⟩
 refine zN 6 ?_;by_cases h77:a.kd=6
 ·refine zN 8 ?_;refine vv (v:=iV ((a.at_.toNat:Nat):Int)) (Ah akS (ah rfl rfl (av Tryz.underlying3 rfl (St.cl 0 S3 rfl rfl)))) ?_;refine zN 6 ?_;have H6:=S3.dZ [7,7,7,7,7,7,7];have zU:=H6;rw [<-pX] at zU;have aAr:=Wd.dL (m:=m) (m':=m) (H:=H) (H':=H) (fs:=(.blk b1 #[iV a.kd,iV a.nd,iV a.qu,iV a.at_,iV a.kp,iV a.ek,iV a.ep,iV a.ei,iV a.eb,iV a.eh,iV a.en] 69)::fs) (X':=X) (z':=z) (Ls:=[]) (fA:=R.fA) (fc:=R.fc) (fx:=R.fx) (sA:=R.sA) (sc:=R.sc) (tA:=R.tA) (tc:=R.tc) (rr:=(.blk b1 #[iV a.kd,iV a.nd,iV a.qu,iV a.at_,iV a.kp,iV a.ek,iV a.ep,iV a.ei,iV a.eb,iV a.eh,iV a.en] 69)::rr) hkn cO (by rw [<-hrr]<;>rfl) G hn zU NG.more (λu hu=> .inl hu) (aJ hX).symm G.fly.symm mI;refine dN ajo (BU hn hkn cO hu (by have:=pY.fl;omega) (by have:=pY.aZ;omega) (λj hj=>by have:=pY.il hj;omega) aAr (λl hl=>(pY.wY l hl).tgt)) ?_;rintro _ w82 ⟨rfl,aqR⟩;refine ⟨_,rfl,?_⟩;have zR:=Wd.vo (gs:=[.blk b1 #[iV a.kd,iV a.nd,iV a.qu,iV a.at_,iV a.kp,iV a.ek,iV a.ep,iV a.ei,iV a.eb,iV a.eh,iV a.en] 69]) aqR;refine zQ ?_;refine bU (l':=[]) trivial (bY (aY (rs:=[]) (vs:=[]) rfl trivial ?_));rw [ahD (by assumption)];exact ⟨rfl,(Wd.less (gs:=[.blk b1 #[iV a.kd,iV a.nd,iV a.qu,iV a.at_,iV a.kp,iV a.ek,iV a.ep,iV a.ei,iV a.eb,iV a.eh,iV a.en] 69]) aqR)⟩
 refine zN 7 ?_;by_cases h84:a.kd=7
 ·refine zN 10 ?_;refine vv (ah rfl rfl (av Tryz.underlying106 rfl (St.cl 4 S3 rfl O5))) ?_;refine zN 8 ?_;refine jk 4 S3 AB ?_ (hs:=by exact aj1);intro w85 zV;refine zN 10 ?_;have Cn:=zV.aT [0];have KD:=Cn.nil 146 23;have Kw:=((((((((KD.bring 5 rfl).bring 7 rfl).bring 7 rfl).bring 3 rfl).bring 7 rfl).bring 7 rfl).bring 7 rfl).bring 7 rfl);rw [<-pX] at Kw;obtain ⟨m1,hm1⟩: ∃ k,k=({ m with fly:=[] }:Cl):=⟨_,rfl⟩;have HW1:Wd K B w0 w85 ((oL R.fA R.fx R.fc)::fs) m1 (R.fx++H):=by
   rw [hm1];exact Wd.dL (m:=m) (H:=H) (fs:=(oL R.fA R.fx R.fc)::fs) (X':=X) (z':=z) (Ls:=[]) (fA:=none) (fc:=0) (fx:=[]) (sA:=R.sA) (sc:=R.sc) (tA:=R.tA) (tc:=R.tc) (rr:=(oL R.fA R.fx R.fc)::rr) hkn cO (by rw [<-hrr];rfl) G hn Kw NG.more (λu hu=>by simp at hu) (aJ hX).symm rfl (λu hu=>(List.mem_append.1 hu).elim (λh=> .inr ((G.flo u h).mono λf hf=>List.mem_append_left _ hf)) .inl)
  have hB0:=adK pY;rw [<-hm1] at hB0;refine eD (X:=Nat×Cl) (λxv=>[(0,pV kw 0),(90,.slice R.fA R.fx.length R.fc),(91,iV ((R.fx.length:Nat):Int)),(92,iV ((xv.1:Nat):Int))]) (λxv wr=>(Wd K B w0 wr ((oL R.fA R.fx R.fc)::fs) xv.2 (R.fx.drop xv.1++H))/\(m.fly.foldl Cl.come m1=(m.fly.drop xv.1).foldl Cl.come xv.2)/\(xv.1<=R.fx.length)/\(fQ xv.2 (4*k+xv.1) (500000*k) (500000*k+xv.1) k)/\St B w0 wr [.own 146 23 (.slice R.fA R.fx.length R.fc) R.fx.length ((R.fx).flatMap LX.cells)]) (λxv=>R.fx.length-xv.1) (0,m1) ?_ ?_ ?_
  ·exact ⟨HW1,rfl,Nat.zero_le _,hB0,Wd.vo (gs:=[.own 146 23 (.slice R.fA R.fx.length R.fc) R.fx.length ((R.fx).flatMap LX.cells)]) HW1⟩
  ·exact ⟨rfl,rfl,rfl,rfl,trivial⟩
  rintro ⟨k2,mm⟩ w90 ⟨akT,akU,aAs,Z0,Ky⟩
  try dsimp only at akT akU aAs Z0 Ky
  refine bn (l':=[(0,pV kw 0),(90,.slice R.fA R.fx.length R.fc),(91,iV ((R.fx.length:Nat):Int)),(92,iV ((k2:Nat):Int))]) ⟨rfl,rfl,rfl,rfl,trivial⟩ ?_;obtain ⟨R3,G3,Sn⟩:=akT.open hn;have Qp:=G3.lW n hn;obtain ⟨X3,Ai⟩: ∃ X,mm.au n=X:=⟨_,rfl⟩;obtain ⟨z3,hz3⟩: ∃ z,R3.nx n=z:=⟨_,rfl⟩;rw [Ai,hz3] at Sn Qp;obtain ⟨W9,G7⟩: ∃ r,fP K R3 mm fs n=r:=⟨_,rfl⟩;have Co:St B w0 w90 ((bN kn n X3.up z3.tA X3.data z3.tc X3.syn z3.bb X3.hints X3.sure z3.iA z3.ix z3.ic z3.pv X3.turn)::(oB z3.bb z3.bx)::(fL z3.iA z3.ix z3.ic)::(bW kw (.slice R3.nA 5 R3.nc) mm.off R3.fA R3.fx R3.fc mm.shown R3.sA mm.aP R3.sc R3.tA mm.aZ R3.tc mm.calls)::(oL R3.fA R3.fx R3.fc)::(oS R3.sA mm.aP R3.sc)::(oT R3.tA mm.aZ R3.tc)::(oL R.fA R.fx R.fc)::W9):=by rw [<-G7];subst hkn;subst cO;exact Sn
  clear Sn;refine zN 2 ?_;by_cases h97:((k2:Nat):Int)< ((R.fx.length:Nat):Int)
  ·refine zN 10 ?_;obtain ⟨x,hx⟩: ∃ x,R.fx[k2]? =some x:=⟨_,List.getElem?_eq_getElem (by omega)⟩;have hxf:m.fly[k2]? =some x.l:=by rw [<-G.fly,List.getElem?_map,hx];rfl
   have hxb:=pY.wY x.l (List.mem_of_getElem? hxf);refine zQ ?_;obtain ⟨fb,fo,hfA⟩:=rd_some (St.ord 7 Co rfl) (by omega);refine vv (v:=pV fb (fo+k2*23)) (aO rfl rfl rfl (cB k2 hfA Tryz.underlying106 vX (by omega) (by omega))) ?_;refine vv (v:= .agg (LX.row x)) (ah rfl rfl (aA (cs:=LX.cells x) Tryz.underlying146 rfl vX rfl (λj u hu=>by rw [Nat.add_assoc];exact GZ (St.ord 7 Co rfl) hfA (bC (enc:=LX.cells) (sz:=23) (k:=k2) (λ_=>rfl) hx hu)))) ?_;refine fO Co aaD ?_;intro b98 w99 qR;refine stA 0 qR vX ?_ (h1:=Cr _);intro aoT rG;refine zN 5 ?_;have oP:=rG.aT [0];have atA:=Wd.dL (m:=mm) (m':=mm) (H:=R.fx.drop k2++H) (H':=x::(R.fx.drop (k2+1)++H)) (fs:=(oL R.fA R.fx R.fc)::fs) (X':=X3) (z':=z3) (Ls:=[]) (fA:=R3.fA) (fc:=R3.fc) (fx:=R3.fx) (sA:=R3.sA) (sc:=R3.sc) (tA:=R3.tA) (tc:=R3.tc) (rr:=(oL R.fA R.fx R.fc)::W9) hkn cO (by rw [<-G7];rfl) G3 hn ((((((((oP.bring 7 rfl).bring 7 rfl).bring 7 rfl).bring 7 rfl).bring 7 rfl).bring 7 rfl).bring 7 rfl).bring 7 rfl) Qp.more (λu hu=> .inl hu) (aJ Ai).symm G3.fly.symm (by rw [drop_cons hx];exact mI);obtain ⟨jj,hjj,htt⟩:=hxb.tgt;refine dN ajp (BS (m:=mm) (x:=x) hjj rfl cO hu (by have:=(Z0).fl;omega) (by have:=(Z0).aZ;omega) (by have:=(Z0).il hjj;omega) atA htt) ?_;rintro _ YF ⟨rfl,aaO⟩;refine ⟨_,rfl,?_⟩;obtain ⟨mc,hmc⟩: ∃ k,k=mm.come x.l:=⟨_,rfl⟩;have uR:=Wd.vo (gs:=[.own 146 23 (.slice R.fA R.fx.length R.fc) R.fx.length ((R.fx).flatMap LX.cells)]) aaO;refine zN 4 ?_;refine vv (v:=iV ((k2+1:Nat):Int)) jg ?_;refine zN 2 ?_;refine aU (k2+1,mc) ?_ ⟨rfl,rfl,rfl,rfl,trivial⟩ (by first | omega | (dsimp only;omega));exact ⟨(by dsimp only;rw [hmc];exact aaO),(by dsimp only;rw [akU,adL hxf,<-hmc]),(by dsimp only;omega),(by dsimp only;rw [hmc];exact (EZ Z0 hxb).mono (by omega) (Nat.le_refl _) (by omega) (Nat.le_refl _)),(Wd.vo (gs:=[.own 146 23 (.slice R.fA R.fx.length R.fc) R.fx.length ((R.fx).flatMap LX.cells)]) (hmc▸aaO))⟩
  refine zN 11 ?_;have qd:m.act a=mm:=by rw [ahE (by assumption)];show m.fly.foldl Cl.come { m with fly:=[] }=mm;rw [<-hm1,akU,List.drop_eq_nil_of_le (by omega)];rfl
  rw [qd];have aAt:R.fx.length<=k2:=by omega
  exact ⟨rfl,Wd.less (gs:=[.own 146 23 (.slice R.fA R.fx.length R.fc) R.fx.length ((R.fx).flatMap LX.cells)]) (by have h9:=akT;rw [List.drop_eq_nil_of_le aAt] at h9;exact h9)⟩
 refine zN 7 ?_;by_cases akz:a.kd=8
 ·refine zN 6 ?_;refine dY S3 mixed (by kernel_rfl) ?_;refine zN 3 ?_;refine uv (v:= .slice (aD ab ao) 5 R.nc) (λ_ atB=>(ah rfl rfl (av Tryz.underlying105 rfl (St.cl 4 atB rfl yK)))) ?_;refine zQ ?_;refine uv (v:=iV ((n:Nat):Int)) (λ_ aaP=>(Ah hnd (ah rfl rfl (av Tryz.underlying3 rfl (St.cl 0 aaP rfl rfl))))) ?_;refine uv (λ_ _=>jX n) ?_;refine uv (v:=pV kn 0) (λ_ atC=>(ah rfl rfl (av Tryz.underlying113 rfl (hkn▸uE harr hn atC (memT 8 rfl hL))))) ?_;refine zQ ?_;refine fC λakA rJ=>?_;refine zN 9 ?_
  cases aCW:(X.up)
  ·refine bn (l':=[(3,pV b1 0),(7,pV kn 0),(113,.bool false)]) ⟨rfl,rfl,rfl,trivial⟩ (dD rfl (gG (bY (aY (rs:=[]) (vs:=[]) rfl trivial ?_))));have yI:=rJ.aT [0];have yF:=yI;rw [<-pX] at yF;have atD:=Wd.dL (m:=m) (m':=m) (H:=H) (H':=H) (fs:=fs) (X':=X) (z':=z) (Ls:=[]) (fA:=R.fA) (fc:=R.fc) (fx:=R.fx) (sA:=R.sA) (sc:=R.sc) (tA:=R.tA) (tc:=R.tc) (rr:=rr) hkn cO (by rw [<-hrr]<;>rfl) G hn yF NG.more (λu hu=> .inl hu) (aJ hX).symm G.fly.symm mI;rw [MJ (by assumption) hnd,ZY (by rw [hX];assumption)];exact ⟨rfl,atD⟩
  refine bn (l':=[(3,pV b1 0),(7,pV kn 0),(113,.bool true)]) ⟨rfl,rfl,rfl,trivial⟩ (iT rfl (aH ?_));have Mx:=rJ.drew;refine aK 14 Mx [1] ?_;refine aL 6 ?_;refine aX 4 ?_;refine gY (i:=4) rfl rfl (v:= .agg #[.slice z.tA X.data.length z.tc,iV X.syn]) (wn rfl) rfl rfl (ah rfl rfl (aA (cs:=[.slice z.tA X.data.length z.tc,iV X.syn]) Tryz.underlying116 rfl eZ rfl (St.rg 1 Mx rfl (qN)))) ?_;refine dG ?_;refine aX 7 ?_;refine jC 7 rfl avR (zA (QC z.tA X.data.length z.tc X.data X.syn a.kp _ (NG.wM.rd Mx (memT 8 rfl hL)))) ?_;rintro _ Yj ⟨aeH,akV,rfl,aAu⟩;refine ⟨_,rfl,?_⟩;have yG:=Mx.ext aAu rfl;refine aL 6 ?_;refine aX 13 ?_;refine snz (row':=dK n X.up (.slice aeH ((nY X.data X.syn a.kp).1.length) akV) ((nY X.data X.syn a.kp).2.1) (.slice (aD z.bb 0) 4 4) X.hints X.sure (.slice z.iA z.ix.length z.ic) (z.pv) X.turn) 13 rfl 2 yG eZ ?_;intro aqf GD;refine aL 2 ?_;refine zN 6 ?_;refine jk (row':=dK n false (.slice aeH ((nY X.data X.syn a.kp).1.length) akV) ((nY X.data X.syn a.kp).2.1) (.slice (aD z.bb 0) 4 4) X.hints X.sure (.slice z.iA z.ix.length z.ic) (z.pv) X.turn) 2 GD Gq ?_;intro aAv TR;refine zN 4 ?_;have JY:=TR.dZ [2];refine dN OJ (mO JY hu) ?_;rintro _ aoW ⟨rfl,atE,Bf⟩;refine ⟨_,rfl,?_⟩;have yH:=Bf.aT [5,4,3];refine zQ ?_;refine bU (l':=[]) trivial (bY (aY (rs:=[]) (vs:=[]) rfl trivial ?_));rw [MJ (by assumption) hnd,adP (by rw [hX];assumption)];have Zq:=yH.AL 146 23;have LZ:=Zq.dZ [7,7,7,7,4,6,6];rw [<-pX] at LZ;exact ⟨rfl,Wd.dL (X':=X.crashed a.kp) (z':={ bb:=atE,tA:=aeH,tc:=akV,bx:=ru,iA:=none,ic:=0,ix:=[],pv:= .nilFunc }) (Ls:=[.cZ 1 aeH ((nY X.data X.syn a.kp).1.length) (byteCells ((nY X.data X.syn a.kp).1))]) (fA:=R.fA) (fc:=R.fc) (fx:=R.fx) (sA:=R.sA) (sc:=R.sc) (tA:=R.tA) (tc:=R.tc) hkn cO hrr G hn LZ ⟨rfl,MI,Ro.cZ (List.mem_append_right _ (List.mem_singleton.2 rfl)),rfl,λy hy=>(by cases hy),rfl⟩ (λu hu=> .inl hu) (by rw [hX];rfl) G.fly.symm mI⟩
 refine zN 7 ?_;by_cases aHi:a.kd=9
 ·refine zN 5 ?_;have aky:St B w0 w2 [.blk b1 #[iV a.kd,iV a.nd,iV a.qu,iV a.at_,iV a.kp,iV a.ek,iV a.ep,iV a.ei,iV a.eb,iV a.eh,iV a.en] 69]:=S3.sub (List.Sublist.cons_cons _ (List.nil_sublist _));have Sv:=S3.drew;have uh:=aky.drew;refine aK 10 uh [] ?_;refine aL 5 ?_;refine ak (v:=iV ((n:Nat):Int)) 6 rfl uh (λ_ Oe=>(Ah hnd (ah rfl rfl (av Tryz.underlying3 rfl (St.cl 0 Oe rfl rfl))))) ?_;refine aX 4 ?_;refine gY (i:=4) rfl rfl (v:= .slice (aD ab ao) 5 R.nc) (wn rfl) rfl rfl (ah rfl rfl (av Tryz.underlying105 rfl (St.cl 4 Sv rfl yK))) ?_;refine dG ?_;refine ak 7 rfl uh (λ_ _=>jX n) ?_;refine aX 8 ?_;refine gY (i:=8) rfl rfl (v:=pV kn 0) (wn rfl) rfl rfl (ah rfl rfl (av Tryz.underlying113 rfl (hkn▸uE harr hn Sv (memT 8 rfl hL)))) ?_;refine dG ?_;refine aX 9 ?_;have GJ:=Sv.dZ [7,7,7,7,7,7,7];have Tw:=GJ;rw [<-pX] at Tw;have TS:=Wd.dL (m:=m) (m':=m) (H:=H) (H':=H) (fs:=(.blk b1 #[iV a.kd,iV a.nd,iV a.qu,iV a.at_,iV a.kp,iV a.ek,iV a.ep,iV a.ei,iV a.eb,iV a.eh,iV a.en] 69)::fs) (X':=X) (z':=z) (Ls:=[]) (fA:=R.fA) (fc:=R.fc) (fx:=R.fx) (sA:=R.sA) (sc:=R.sc) (tA:=R.tA) (tc:=R.tc) (rr:=(.blk b1 #[iV a.kd,iV a.nd,iV a.qu,iV a.at_,iV a.kp,iV a.ek,iV a.ep,iV a.ei,iV a.eb,iV a.eh,iV a.en] 69)::rr) hkn cO (by rw [<-hrr]<;>rfl) G hn Tw NG.more (λu hu=> .inl hu) (aJ hX).symm G.fly.symm mI;refine jC 9 rfl avS (Rx hn hkn cO hu (by have:=pY.fl;omega) (by have:=pY.aP;omega) TS (pY.lW n hn).OB.1 (pY.lW n hn).OB.2.1 (pY.lW n hn).OB.2.2.1 (pY.lW n hn).OB.2.2.2 hsh) ?_;rintro _ axd ⟨rfl,ajc⟩;refine ⟨_,rfl,?_⟩;have aoN:=Wd.vo (gs:=[.blk b1 #[iV a.kd,iV a.nd,iV a.qu,iV a.at_,iV a.kp,iV a.ek,iV a.ep,iV a.ei,iV a.eb,iV a.eh,iV a.en] 69]) ajc;refine aL 2 ?_;refine bU (l':=[]) trivial (bY (aY (rs:=[]) (vs:=[]) rfl trivial ?_));rw [ZW (by assumption) hnd];exact ⟨rfl,(Wd.less (gs:=[.blk b1 #[iV a.kd,iV a.nd,iV a.qu,iV a.at_,iV a.kp,iV a.ek,iV a.ep,iV a.ei,iV a.eb,iV a.eh,iV a.en] 69]) ajc)⟩
 refine zN 8 ?_;refine vv (v:=iV ((q:Nat):Int)) (Ah hqd (ah rfl rfl (av Tryz.underlying3 rfl (St.cl 0 S3 rfl rfl)))) ?_;refine zN 2 ?_;obtain ⟨PW,uG⟩: ∃ r,bO m.off q=r:=⟨_,rfl⟩;obtain ⟨nn,hnn,hwn⟩:=ahA uG;have akW:=S3.dZ [7,7,7,7,7,7,7];have Tf:=akW;rw [<-pX] at Tf;have atF:=Wd.dL (m:=m) (m':=m) (H:=H) (H':=H) (fs:=(.blk b1 #[iV a.kd,iV a.nd,iV a.qu,iV a.at_,iV a.kp,iV a.ek,iV a.ep,iV a.ei,iV a.eb,iV a.eh,iV a.en] 69)::fs) (X':=X) (z':=z) (Ls:=[]) (fA:=R.fA) (fc:=R.fc) (fx:=R.fx) (sA:=R.sA) (sc:=R.sc) (tA:=R.tA) (tc:=R.tc) (rr:=(.blk b1 #[iV a.kd,iV a.nd,iV a.qu,iV a.at_,iV a.kp,iV a.ek,iV a.ep,iV a.ei,iV a.eb,iV a.eh,iV a.en] 69)::rr) hkn cO (by rw [<-hrr]<;>rfl) G hn Tf NG.more (λu hu=> .inl hu) (aJ hX).symm G.fly.symm mI;refine dN avT (Vq hnn rfl cO hu (by have:=pY.fl;omega) (by have:=pY.aP;omega) hq atF (pY.lW nn hnn).nN uG hwn) ?_;rintro _ akf ⟨rfl,ajd⟩;refine ⟨_,rfl,?_⟩;have Tx:=Wd.vo (gs:=[.blk b1 #[iV a.kd,iV a.nd,iV a.qu,iV a.at_,iV a.kp,iV a.ek,iV a.ep,iV a.ei,iV a.eb,iV a.eh,iV a.en] 69]) ajd;refine zQ ?_;refine bU (l':=[]) trivial (bY (aY (rs:=[]) (vs:=[]) rfl trivial ?_));rw [ZX (by assumption) (by assumption) (by assumption) (by assumption) (by assumption) (by assumption) (by assumption) (by assumption) (by assumption) hqd];exact ⟨rfl,(Wd.less (gs:=[.blk b1 #[iV a.kd,iV a.nd,iV a.qu,iV a.at_,iV a.kp,iV a.ek,iV a.ep,iV a.ei,iV a.eb,iV a.eh,iV a.en] 69]) ajd)⟩
theorem St.jD {B:Nat} {w0 w:World} {fs:List Fact} {b n s:Nat} {row:Array Value} {t:TypeId} {xs:List Value} (i:Nat) (S:St B w0 w fs) (hi:fs[i]? =some (.blk b row t)) (hx:row.toList=xs) (hl:xs.length=n*s):St B w0 w (fs.set i (.cZ s (some ⟨b,0,none⟩) n xs)):=
 St.turn i S hi S.low (Nat.le_refl _) (λ_ _ _=>rfl) ⟨St.lC i S hi hx hl,λa h=>by cases h;exact ⟨St.ge i S hi,St.lt i S hi⟩⟩ (λk hk=> .inl hk)
def dF (g:Nat) (p:Nat×Int):List Value:=[.pointer (some ⟨g,p.1,none⟩),.int .i64 p.2]
def bX (kd ek:Int):ByteArray:=
 if kd=1 then ⟨#[109,97,107,101]⟩ else if kd=10 then ⟨#[109,111,118,101]⟩ else if kd=3 then ⟨#[115,116,101,112]⟩ else if kd=9 then ⟨#[115,116,97,114,116]⟩ else if kd=8 then ⟨#[99,114,97,115,104]⟩
 else if kd=4 then ⟨#[99,97,114,114,121]⟩ else if kd=5 then ⟨#[108,111,115,101]⟩ else if kd=6 then ⟨#[100,111,117,98,108,101]⟩ else if kd=7 then ⟨#[97,108,108]⟩
 else if kd=2 then (if ek=1 then ⟨#[112,117,98,108,105,115,104]⟩ else if ek=2 then ⟨#[114,101,99,101,105,118,101]⟩ else if ek=3 then ⟨#[97,99,107]⟩ else ⟨#[]⟩) else ⟨#[]⟩
def adR (w:World) (g:Nat) (u:ByteArray) (r:Option (List (Nat×Int))) (e:Ending) (w':World):Prop:=match r with
 | none=>e= .returned (.tuple #[.string u,.slice none 0 0,.bool false])/\Below w.heap.size w w'
 | some l=> ∃ A,e= .returned (.tuple #[.string u,.slice A l.length l.length,.bool true])/\St w.heap.size w w' [.cZ 2 A l.length (l.flatMap (dF g))]
theorem Ac.aje (x:Ac) {i:Nat} (h:i<11):x.cells.toArray[i]? =some (.int .i64 (x.get i)):=by rw [List.getElem?_toArray];exact x.cell h
theorem Vt (g:Nat) (x:Ac) (w:World) (h:Rd w w.heap.size 11 (aD g 0) 1 x.cells):
    Calls Tryz.prog 48 #[pV g 0] w (adR w g (bX x.kd x.ek) (bM x.kd x.ek)):=by
 have S:=(St.start w).bZ h;refine gy 111 Tryz.func48 ?_;refine cw [0] ?_;refine zN 8 ?_;have S1:=S.drew;refine Gp (C:=λw'=>St w.heap.size w w' [.rd 11 (aD g 0) 1 x.cells]) (n:=12) (listed:= #[false,false,false,false,false,false,false,false,false,false,false,false]) mixed rfl rfl ?_;refine aL 3 ?_;refine ak (v:= .agg #[pV g 1,iV 4]) 3 rfl S1 (λ_ _=>fT) ?_;refine aL 3 ?_;refine ak (v:= .agg #[pV g 2,iV 3]) 7 rfl S1 (λ_ _=>fT) ?_;refine gU (n:=3) (r:=8) (s:=9) (by kernel_rfl) ?_ ?_
 ·refine kX 8 rfl S1 DT ?_;intro b10 FM lN;refine dG ?_;refine aX 9 ?_;refine kX 9 rfl lN DT ?_;intro b13 HY gZ;refine dG ?_;refine aX 10 ?_;refine sn 10 rfl 1 gZ rV ?_;intro w16 jZ;refine dG ?_;refine aX 11 ?_;refine sn 11 rfl 0 jZ rV ?_;intro Ht kM;refine aL 2 ?_;refine zN 6 ?_;refine vv (v:= .agg #[pV g 3,iV 1048576]) fT ?_;refine fO kM DT ?_;intro b20 EH iI;refine sa 0 iI rV ?_;intro Jp jy;refine zN 8 ?_;refine vv (v:=iV x.kd) (ah rfl rfl (av Tryz.underlying3 rfl (Rd.cl (j:=0) (St.rd 3 jy rfl) rfl))) ?_;refine zN 5 ?_;by_cases sM:x.kd=1
  ·refine zN 6 ?_;have nL:=jy.drew;refine aK 6 nL [] ?_;refine aL 3 ?_;refine aX 2 ?_;refine jJ (i:=2) rfl rfl (V:=λb=> .slice (aD b 0) 2 2) (row:= #[pV g 2,iV 3,pV g 1,iV 4]) (t:=141) nL (wn rfl) rfl rfl (aV (vs:=[(0,.agg #[pV g 2,iV 3]),(1,.agg #[pV g 1,iV 4])]) rfl ⟨rfl,rfl,rfl,rfl,trivial⟩ (by kernel_rfl)) ?_;intro b30 X9 qj;refine aL 4 ?_;refine zN 5 ?_;rw [show bX x.kd x.ek=⟨#[109,97,107,101]⟩ from by simp [bX,sM]];have rZ:=qj.aT [4,3,2,1];rw [show bM x.kd x.ek=some [(2,3),(1,4)] from by simp [bM,sM]];exact ⟨_,rfl,St.jD (n:=2) (xs:=([(2,3),(1,4)]:List (Nat×Int)).flatMap (dF g)) 0 rZ rfl rfl rfl⟩
  refine zN 7 ?_;by_cases yc:x.kd=10
  ·refine zN 6 ?_;have pK:=jy.drew;refine aK 6 pK [] ?_;refine aL 3 ?_;refine aX 2 ?_;refine jJ (i:=2) rfl rfl (V:=λb=> .slice (aD b 0) 2 2) (row:= #[pV g 2,iV 3,pV g 1,iV 4]) (t:=141) pK (wn rfl) rfl rfl (aV (vs:=[(0,.agg #[pV g 2,iV 3]),(1,.agg #[pV g 1,iV 4])]) rfl ⟨rfl,rfl,rfl,rfl,trivial⟩ (by kernel_rfl)) ?_;intro b41 R4 rX;refine aL 4 ?_;refine zN 5 ?_;rw [show bX x.kd x.ek=⟨#[109,111,118,101]⟩ from by simp [bX,sM,yc]];have qL:=rX.aT [4,3,2,1];rw [show bM x.kd x.ek=some [(2,3),(1,4)] from by simp [bM,sM,yc]];exact ⟨_,rfl,St.jD (n:=2) (xs:=([(2,3),(1,4)]:List (Nat×Int)).flatMap (dF g)) 0 qL rfl rfl rfl⟩
  refine zN 7 ?_;by_cases h47:x.kd=3
  ·refine zN 6 ?_;have uZ:=jy.drew;refine aK 5 uZ [] ?_;refine aL 2 ?_;refine aX 1 ?_;refine EA 1 rfl uZ ?_;intro b51 w52 wo;refine aL 4 ?_;refine zN 5 ?_;rw [show bX x.kd x.ek=⟨#[115,116,101,112]⟩ from by simp [bX,sM,yc,h47]];have FT:=wo.aT [4,3,2,1];rw [show bM x.kd x.ek=some [(1,4)] from by simp [bM,sM,yc,h47]];exact ⟨_,rfl,St.jD (n:=1) (xs:=([(1,4)]:List (Nat×Int)).flatMap (dF g)) 0 FT rfl rfl rfl⟩
  refine zN 7 ?_;by_cases h57:x.kd=9
  ·refine zN 6 ?_;have Bz:=jy.drew;refine aK 5 Bz [] ?_;refine aL 2 ?_;refine aX 1 ?_;refine EA 1 rfl Bz ?_;intro b61 Ws u6;refine aL 4 ?_;refine zN 5 ?_;rw [show bX x.kd x.ek=⟨#[115,116,97,114,116]⟩ from by simp [bX,sM,yc,h47,h57]];have EJ:=u6.aT [4,3,2,1];rw [show bM x.kd x.ek=some [(1,4)] from by simp [bM,sM,yc,h47,h57]];exact ⟨_,rfl,St.jD (n:=1) (xs:=([(1,4)]:List (Nat×Int)).flatMap (dF g)) 0 EJ rfl rfl rfl⟩
  refine zN 7 ?_;by_cases AP:x.kd=8
  ·refine zN 6 ?_;have yQ:=jy.drew;refine aK 9 yQ [] ?_;refine aL 4 ?_;refine ak (v:= .agg #[pV g 4,iV 100000]) 4 rfl yQ (λ_ _=>fT) ?_;refine dG ?_;refine aX 5 ?_;refine jJ (i:=5) rfl rfl (V:=λb=> .slice (aD b 0) 2 2) (row:= #[pV g 1,iV 4,pV g 4,iV 100000]) (t:=141) yQ (wn rfl) rfl rfl (aV (vs:=[(0,.agg #[pV g 1,iV 4]),(1,.agg #[pV g 4,iV 100000])]) rfl ⟨rfl,rfl,rfl,rfl,trivial⟩ (by kernel_rfl)) ?_;intro b75 w76 DW;refine aL 4 ?_;refine zN 5 ?_;rw [show bX x.kd x.ek=⟨#[99,114,97,115,104]⟩ from by simp [bX,sM,yc,h47,h57,AP]];have zU:=DW.aT [4,3,2,1];rw [show bM x.kd x.ek=some [(1,4),(4,100000)] from by simp [bM,sM,yc,h47,h57,AP]];exact ⟨_,rfl,St.jD (n:=2) (xs:=([(1,4),(4,100000)]:List (Nat×Int)).flatMap (dF g)) 0 zU rfl rfl rfl⟩
  refine zN 7 ?_;by_cases FZ:x.kd=4
  ·refine zN 6 ?_;have S82:=jy.drew;refine aK 5 S82 [] ?_;refine aL 2 ?_;refine aX 1 ?_;refine EA 1 rfl S82 ?_;intro b85 w86 Cn;refine aL 4 ?_;refine zN 5 ?_;rw [show bX x.kd x.ek=⟨#[99,97,114,114,121]⟩ from by simp [bX,sM,yc,h47,h57,AP,FZ]];have Yp:=Cn.aT [4,3,2,1];rw [show bM x.kd x.ek=some [(3,1048576)] from by simp [bM,sM,yc,h47,h57,AP,FZ]];exact ⟨_,rfl,St.jD (n:=1) (xs:=([(3,1048576)]:List (Nat×Int)).flatMap (dF g)) 0 Yp rfl rfl rfl⟩
  refine zN 7 ?_;by_cases ER:x.kd=5
  ·refine zN 6 ?_;have xW:=jy.drew;refine aK 5 xW [] ?_;refine aL 2 ?_;refine aX 1 ?_;refine EA 1 rfl xW ?_;intro b95 w96 D5;refine aL 4 ?_;refine zN 5 ?_;rw [show bX x.kd x.ek=⟨#[108,111,115,101]⟩ from by simp [bX,sM,yc,h47,h57,AP,FZ,ER]];have qR:=D5.aT [4,3,2,1];rw [show bM x.kd x.ek=some [(3,1048576)] from by simp [bM,sM,yc,h47,h57,AP,FZ,ER]];exact ⟨_,rfl,St.jD (n:=1) (xs:=([(3,1048576)]:List (Nat×Int)).flatMap (dF g)) 0 qR rfl rfl rfl⟩
  refine zN 7 ?_;by_cases Ak:x.kd=6
  ·refine zN 6 ?_;have rG:=jy.drew;refine aK 5 rG [] ?_;refine aL 2 ?_;refine aX 1 ?_;refine EA 1 rfl rG ?_;intro aHj YF uR;refine aL 4 ?_;refine zN 5 ?_;rw [show bX x.kd x.ek=⟨#[100,111,117,98,108,101]⟩ from by simp [bX,sM,yc,h47,h57,AP,FZ,ER,Ak]];have qg:=uR.aT [4,3,2,1];rw [show bM x.kd x.ek=some [(3,1048576)] from by simp [bM,sM,yc,h47,h57,AP,FZ,ER,Ak]];exact ⟨_,rfl,St.jD (n:=1) (xs:=([(3,1048576)]:List (Nat×Int)).flatMap (dF g)) 0 qg rfl rfl rfl⟩
  refine zN 7 ?_;by_cases Dn:x.kd=7
  ·refine zN 16 ?_;rw [show bX x.kd x.ek=⟨#[97,108,108]⟩ from by simp [bX,sM,yc,h47,h57,AP,FZ,ER,Ak,Dn]];have uS:=jy.aT [3,2,1,0];rw [show bM x.kd x.ek=some [] from by simp [bM,sM,yc,h47,h57,AP,FZ,ER,Ak,Dn]];exact ⟨none,rfl,aG uS⟩
  refine zN 7 ?_;by_cases G8:x.kd=2
  ·refine zN 18 ?_;refine vv (v:=iV x.ek) (ah rfl rfl (av Tryz.underlying3 rfl (Rd.cl (j:=5) (St.rd 3 jy rfl) rfl))) ?_;refine zN 5 ?_;by_cases E9:x.ek=1
   ·refine zN 6 ?_;have qm:=jy.drew;refine aK 18 qm [] ?_;refine aL 5 ?_;refine ak (v:= .agg #[pV g 6,iV 3]) 5 rfl qm (λ_ _=>fT) ?_;refine aL 3 ?_;refine ak (v:= .agg #[pV g 7,iV 1073741824]) 9 rfl qm (λ_ _=>fT) ?_;refine aL 3 ?_;refine ak (v:= .agg #[pV g 8,iV 1000000]) 13 rfl qm (λ_ _=>fT) ?_;refine dG ?_;refine aX 14 ?_;refine jJ (i:=14) rfl rfl (V:=λb=> .slice (aD b 0) 5 5) (row:= #[pV g 1,iV 4,pV g 2,iV 3,pV g 6,iV 3,pV g 7,iV 1073741824,pV g 8,iV 1000000]) (t:=141) qm (wn rfl) rfl rfl (aV (vs:=[(0,.agg #[pV g 1,iV 4]),(1,.agg #[pV g 2,iV 3]),(2,.agg #[pV g 6,iV 3]),(3,.agg #[pV g 7,iV 1073741824]),(4,.agg #[pV g 8,iV 1000000])]) rfl ⟨rfl,rfl,rfl,rfl,rfl,rfl,rfl,rfl,rfl,rfl,trivial⟩ (by kernel_rfl)) ?_;intro aHk ay0 O4;refine aL 4 ?_;refine zN 6 ?_;rw [show bX x.kd x.ek=⟨#[112,117,98,108,105,115,104]⟩ from by simp [bX,sM,yc,h47,h57,AP,FZ,ER,Ak,Dn,G8,E9]];have CW:=O4.aT [4,3,2,1];rw [show bM x.kd x.ek=some [(1,4),(2,3),(6,3),(7,1073741824),(8,1000000)] from by simp [bM,sM,yc,h47,h57,AP,FZ,ER,Ak,Dn,G8,E9]];exact ⟨_,rfl,St.jD (n:=5) (xs:=([(1,4),(2,3),(6,3),(7,1073741824),(8,1000000)]:List (Nat×Int)).flatMap (dF g)) 0 CW rfl rfl rfl⟩
   refine zN 7 ?_;by_cases TU:x.ek=2
   ·refine zN 6 ?_;have CY:=jy.drew;refine aK 6 CY [] ?_;refine aL 3 ?_;refine aX 2 ?_;refine jJ (i:=2) rfl rfl (V:=λb=> .slice (aD b 0) 2 2) (row:= #[pV g 1,iV 4,pV g 2,iV 3]) (t:=141) CY (wn rfl) rfl rfl (aV (vs:=[(0,.agg #[pV g 1,iV 4]),(1,.agg #[pV g 2,iV 3])]) rfl ⟨rfl,rfl,rfl,rfl,trivial⟩ (by kernel_rfl)) ?_;intro aoV aAv TR;refine aL 4 ?_;refine zN 6 ?_;rw [show bX x.kd x.ek=⟨#[114,101,99,101,105,118,101]⟩ from by simp [bX,sM,yc,h47,h57,AP,FZ,ER,Ak,Dn,G8,E9,TU]];have OO:=TR.aT [4,3,2,1];rw [show bM x.kd x.ek=some [(1,4),(2,3)] from by simp [bM,sM,yc,h47,h57,AP,FZ,ER,Ak,Dn,G8,E9,TU]];exact ⟨_,rfl,St.jD (n:=2) (xs:=([(1,4),(2,3)]:List (Nat×Int)).flatMap (dF g)) 0 OO rfl rfl rfl⟩
   refine zN 7 ?_;by_cases aeI:x.ek=3
   ·refine zN 6 ?_;have yH:=jy.drew;refine aK 16 yH [] ?_;refine aL 6 ?_;refine ak (v:= .agg #[pV g 9,iV 1048576]) 6 rfl yH (λ_ _=>fT) ?_;refine aL 4 ?_;refine ak (v:= .agg #[pV g 10,iV 1073741824]) 11 rfl yH (λ_ _=>fT) ?_;refine dG ?_;refine aX 12 ?_;refine jJ (i:=12) rfl rfl (V:=λb=> .slice (aD b 0) 4 4) (row:= #[pV g 1,iV 4,pV g 2,iV 3,pV g 9,iV 1048576,pV g 10,iV 1073741824]) (t:=141) yH (wn rfl) rfl rfl (aV (vs:=[(0,.agg #[pV g 1,iV 4]),(1,.agg #[pV g 2,iV 3]),(2,.agg #[pV g 9,iV 1048576]),(3,.agg #[pV g 10,iV 1073741824])]) rfl ⟨rfl,rfl,rfl,rfl,rfl,rfl,rfl,rfl,trivial⟩ (by kernel_rfl)) ?_;intro aHl aoZ xB;refine aL 4 ?_;refine zN 6 ?_;rw [show bX x.kd x.ek=⟨#[97,99,107]⟩ from by simp [bX,sM,yc,h47,h57,AP,FZ,ER,Ak,Dn,G8,E9,TU,aeI]];have akW:=xB.aT [4,3,2,1];rw [show bM x.kd x.ek=some [(1,4),(2,3),(9,1048576),(10,1073741824)] from by simp [bM,sM,yc,h47,h57,AP,FZ,ER,Ak,Dn,G8,E9,TU,aeI]];exact ⟨_,rfl,St.jD (n:=4) (xs:=([(1,4),(2,3),(9,1048576),(10,1073741824)]:List (Nat×Int)).flatMap (dF g)) 0 akW rfl rfl rfl⟩
   refine zN 18 ?_;rw [show bX x.kd x.ek=⟨#[]⟩ from by simp [bX,sM,yc,h47,h57,AP,FZ,ER,Ak,Dn,G8,E9,TU,aeI]];rw [show bM x.kd x.ek=none from by simp [bM,sM,yc,h47,h57,AP,FZ,ER,Ak,Dn,G8,E9,TU,aeI]];exact ⟨rfl,jy.low⟩
  refine zN 17 ?_;rw [show bX x.kd x.ek=⟨#[]⟩ from by simp [bX,sM,yc,h47,h57,AP,FZ,ER,Ak,Dn,G8]];rw [show bM x.kd x.ek=none from by simp [bM,sM,yc,h47,h57,AP,FZ,ER,Ak,Dn,G8]];exact ⟨rfl,jy.low⟩
 refine kX 9 rfl S1 DT ?_;intro aHm aHn ajO;refine dG ?_;refine aX 8 ?_;refine kX 8 rfl ajO DT ?_;intro aHo axe OW;refine dG ?_;refine aX 10 ?_;refine sn 10 rfl 0 OW rV ?_;intro aHp Zw;refine dG ?_;refine aX 11 ?_;refine sn 11 rfl 1 Zw rV ?_;intro ay4 Ma;refine aL 2 ?_;refine zN 6 ?_;refine vv (v:= .agg #[pV g 3,iV 1048576]) fT ?_;refine fO Ma DT ?_;intro aHq aHr YL;refine sa 0 YL rV ?_;intro aHs xJ;refine zN 8 ?_;refine vv (v:=iV x.kd) (ah rfl rfl (av Tryz.underlying3 rfl (Rd.cl (j:=0) (St.rd 3 xJ rfl) rfl))) ?_;refine zN 5 ?_;by_cases nC:x.kd=1
 ·refine zN 6 ?_;have aqS:=xJ.drew;refine aK 6 aqS [] ?_;refine aL 3 ?_;refine aX 2 ?_;refine jJ (i:=2) rfl rfl (V:=λb=> .slice (aD b 0) 2 2) (row:= #[pV g 2,iV 3,pV g 1,iV 4]) (t:=141) aqS (wn rfl) rfl rfl (aV (vs:=[(0,.agg #[pV g 2,iV 3]),(1,.agg #[pV g 1,iV 4])]) rfl ⟨rfl,rfl,rfl,rfl,trivial⟩ (by kernel_rfl)) ?_;intro aHt ays akE;refine aL 4 ?_;refine zN 5 ?_;rw [show bX x.kd x.ek=⟨#[109,97,107,101]⟩ from by simp [bX,nC]];have O8:=akE.aT [4,3,2,1];rw [show bM x.kd x.ek=some [(2,3),(1,4)] from by simp [bM,nC]];exact ⟨_,rfl,St.jD (n:=2) (xs:=([(2,3),(1,4)]:List (Nat×Int)).flatMap (dF g)) 0 O8 rfl rfl rfl⟩
 refine zN 7 ?_;by_cases oq:x.kd=10
 ·refine zN 6 ?_;have aqT:=xJ.drew;refine aK 6 aqT [] ?_;refine aL 3 ?_;refine aX 2 ?_;refine jJ (i:=2) rfl rfl (V:=λb=> .slice (aD b 0) 2 2) (row:= #[pV g 2,iV 3,pV g 1,iV 4]) (t:=141) aqT (wn rfl) rfl rfl (aV (vs:=[(0,.agg #[pV g 2,iV 3]),(1,.agg #[pV g 1,iV 4])]) rfl ⟨rfl,rfl,rfl,rfl,trivial⟩ (by kernel_rfl)) ?_;intro aHu aHv aAw;refine aL 4 ?_;refine zN 5 ?_;rw [show bX x.kd x.ek=⟨#[109,111,118,101]⟩ from by simp [bX,nC,oq]];have aAx:=aAw.aT [4,3,2,1];rw [show bM x.kd x.ek=some [(2,3),(1,4)] from by simp [bM,nC,oq]];exact ⟨_,rfl,St.jD (n:=2) (xs:=([(2,3),(1,4)]:List (Nat×Int)).flatMap (dF g)) 0 aAx rfl rfl rfl⟩
 refine zN 7 ?_;by_cases pU:x.kd=3
 ·refine zN 6 ?_;have aeD:=xJ.drew;refine aK 5 aeD [] ?_;refine aL 2 ?_;refine aX 1 ?_;refine EA 1 rfl aeD ?_;intro aHw aHx aAy;refine aL 4 ?_;refine zN 5 ?_;rw [show bX x.kd x.ek=⟨#[115,116,101,112]⟩ from by simp [bX,nC,oq,pU]];have aAz:=aAy.aT [4,3,2,1];rw [show bM x.kd x.ek=some [(1,4)] from by simp [bM,nC,oq,pU]];exact ⟨_,rfl,St.jD (n:=1) (xs:=([(1,4)]:List (Nat×Int)).flatMap (dF g)) 0 aAz rfl rfl rfl⟩
 refine zN 7 ?_;by_cases qV:x.kd=9
 ·refine zN 6 ?_;have aqU:=xJ.drew;refine aK 5 aqU [] ?_;refine aL 2 ?_;refine aX 1 ?_;refine EA 1 rfl aqU ?_;intro aHy aHz aAA;refine aL 4 ?_;refine zN 5 ?_;rw [show bX x.kd x.ek=⟨#[115,116,97,114,116]⟩ from by simp [bX,nC,oq,pU,qV]];have akM:=aAA.aT [4,3,2,1];rw [show bM x.kd x.ek=some [(1,4)] from by simp [bM,nC,oq,pU,qV]];exact ⟨_,rfl,St.jD (n:=1) (xs:=([(1,4)]:List (Nat×Int)).flatMap (dF g)) 0 akM rfl rfl rfl⟩
 refine zN 7 ?_;by_cases tq:x.kd=8
 ·refine zN 6 ?_;have ZQ:=xJ.drew;refine aK 9 ZQ [] ?_;refine aL 4 ?_;refine ak (v:= .agg #[pV g 4,iV 100000]) 4 rfl ZQ (λ_ _=>fT) ?_;refine dG ?_;refine aX 5 ?_;refine jJ (i:=5) rfl rfl (V:=λb=> .slice (aD b 0) 2 2) (row:= #[pV g 1,iV 4,pV g 4,iV 100000]) (t:=141) ZQ (wn rfl) rfl rfl (aV (vs:=[(0,.agg #[pV g 1,iV 4]),(1,.agg #[pV g 4,iV 100000])]) rfl ⟨rfl,rfl,rfl,rfl,trivial⟩ (by kernel_rfl)) ?_;intro aHA aHB aAB;refine aL 4 ?_;refine zN 5 ?_;rw [show bX x.kd x.ek=⟨#[99,114,97,115,104]⟩ from by simp [bX,nC,oq,pU,qV,tq]];have akN:=aAB.aT [4,3,2,1];rw [show bM x.kd x.ek=some [(1,4),(4,100000)] from by simp [bM,nC,oq,pU,qV,tq]];exact ⟨_,rfl,St.jD (n:=2) (xs:=([(1,4),(4,100000)]:List (Nat×Int)).flatMap (dF g)) 0 akN rfl rfl rfl⟩
 refine zN 7 ?_;by_cases uX:x.kd=4
 ·refine zN 6 ?_;have aqV:=xJ.drew;refine aK 5 aqV [] ?_;refine aL 2 ?_;refine aX 1 ?_;refine EA 1 rfl aqV ?_;intro aHC aHD aAC;refine aL 4 ?_;refine zN 5 ?_;rw [show bX x.kd x.ek=⟨#[99,97,114,114,121]⟩ from by simp [bX,nC,oq,pU,qV,tq,uX]];have aAD:=aAC.aT [4,3,2,1];rw [show bM x.kd x.ek=some [(3,1048576)] from by simp [bM,nC,oq,pU,qV,tq,uX]];exact ⟨_,rfl,St.jD (n:=1) (xs:=([(3,1048576)]:List (Nat×Int)).flatMap (dF g)) 0 aAD rfl rfl rfl⟩
 refine zN 7 ?_;by_cases xK:x.kd=5
 ·refine zN 6 ?_;have aeE:=xJ.drew;refine aK 5 aeE [] ?_;refine aL 2 ?_;refine aX 1 ?_;refine EA 1 rfl aeE ?_;intro aHE aHF aAE;refine aL 4 ?_;refine zN 5 ?_;rw [show bX x.kd x.ek=⟨#[108,111,115,101]⟩ from by simp [bX,nC,oq,pU,qV,tq,uX,xK]];have aAF:=aAE.aT [4,3,2,1];rw [show bM x.kd x.ek=some [(3,1048576)] from by simp [bM,nC,oq,pU,qV,tq,uX,xK]];exact ⟨_,rfl,St.jD (n:=1) (xs:=([(3,1048576)]:List (Nat×Int)).flatMap (dF g)) 0 aAF rfl rfl rfl⟩
 refine zN 7 ?_;by_cases Al:x.kd=6
 ·refine zN 6 ?_;have aqW:=xJ.drew;refine aK 5 aqW [] ?_;refine aL 2 ?_;refine aX 1 ?_;refine EA 1 rfl aqW ?_;intro aHG aHH aAG;refine aL 4 ?_;refine zN 5 ?_;rw [show bX x.kd x.ek=⟨#[100,111,117,98,108,101]⟩ from by simp [bX,nC,oq,pU,qV,tq,uX,xK,Al]];have aAH:=aAG.aT [4,3,2,1];rw [show bM x.kd x.ek=some [(3,1048576)] from by simp [bM,nC,oq,pU,qV,tq,uX,xK,Al]];exact ⟨_,rfl,St.jD (n:=1) (xs:=([(3,1048576)]:List (Nat×Int)).flatMap (dF g)) 0 aAH rfl rfl rfl⟩
 refine zN 7 ?_;by_cases Dp:x.kd=7
 ·refine zN 16 ?_;rw [show bX x.kd x.ek=⟨#[97,108,108]⟩ from by simp [bX,nC,oq,pU,qV,tq,uX,xK,Al,Dp]];have aAI:=xJ.aT [3,2,1,0];rw [show bM x.kd x.ek=some [] from by simp [bM,nC,oq,pU,qV,tq,uX,xK,Al,Dp]];exact ⟨none,rfl,aG aAI⟩
 refine zN 7 ?_;by_cases G9:x.kd=2
 ·refine zN 18 ?_;refine vv (v:=iV x.ek) (ah rfl rfl (av Tryz.underlying3 rfl (Rd.cl (j:=5) (St.rd 3 xJ rfl) rfl))) ?_;refine zN 5 ?_;by_cases MK:x.ek=1
  ·refine zN 6 ?_;have Z4:=xJ.drew;refine aK 18 Z4 [] ?_;refine aL 5 ?_;refine ak (v:= .agg #[pV g 6,iV 3]) 5 rfl Z4 (λ_ _=>fT) ?_;refine aL 3 ?_;refine ak (v:= .agg #[pV g 7,iV 1073741824]) 9 rfl Z4 (λ_ _=>fT) ?_;refine aL 3 ?_;refine ak (v:= .agg #[pV g 8,iV 1000000]) 13 rfl Z4 (λ_ _=>fT) ?_;refine dG ?_;refine aX 14 ?_;refine jJ (i:=14) rfl rfl (V:=λb=> .slice (aD b 0) 5 5) (row:= #[pV g 1,iV 4,pV g 2,iV 3,pV g 6,iV 3,pV g 7,iV 1073741824,pV g 8,iV 1000000]) (t:=141) Z4 (wn rfl) rfl rfl (aV (vs:=[(0,.agg #[pV g 1,iV 4]),(1,.agg #[pV g 2,iV 3]),(2,.agg #[pV g 6,iV 3]),(3,.agg #[pV g 7,iV 1073741824]),(4,.agg #[pV g 8,iV 1000000])]) rfl ⟨rfl,rfl,rfl,rfl,rfl,rfl,rfl,rfl,rfl,rfl,trivial⟩ (by kernel_rfl)) ?_;intro aHI aHJ aAJ;refine aL 4 ?_;refine zN 6 ?_;rw [show bX x.kd x.ek=⟨#[112,117,98,108,105,115,104]⟩ from by simp [bX,nC,oq,pU,qV,tq,uX,xK,Al,Dp,G9,MK]];have aAK:=aAJ.aT [4,3,2,1];rw [show bM x.kd x.ek=some [(1,4),(2,3),(6,3),(7,1073741824),(8,1000000)] from by simp [bM,nC,oq,pU,qV,tq,uX,xK,Al,Dp,G9,MK]];exact ⟨_,rfl,St.jD (n:=5) (xs:=([(1,4),(2,3),(6,3),(7,1073741824),(8,1000000)]:List (Nat×Int)).flatMap (dF g)) 0 aAK rfl rfl rfl⟩
  refine zN 7 ?_;by_cases TV:x.ek=2
  ·refine zN 6 ?_;have aeF:=xJ.drew;refine aK 6 aeF [] ?_;refine aL 3 ?_;refine aX 2 ?_;refine jJ (i:=2) rfl rfl (V:=λb=> .slice (aD b 0) 2 2) (row:= #[pV g 1,iV 4,pV g 2,iV 3]) (t:=141) aeF (wn rfl) rfl rfl (aV (vs:=[(0,.agg #[pV g 1,iV 4]),(1,.agg #[pV g 2,iV 3])]) rfl ⟨rfl,rfl,rfl,rfl,trivial⟩ (by kernel_rfl)) ?_;intro aHK aHL aAL;refine aL 4 ?_;refine zN 6 ?_;rw [show bX x.kd x.ek=⟨#[114,101,99,101,105,118,101]⟩ from by simp [bX,nC,oq,pU,qV,tq,uX,xK,Al,Dp,G9,MK,TV]];have aAM:=aAL.aT [4,3,2,1];rw [show bM x.kd x.ek=some [(1,4),(2,3)] from by simp [bM,nC,oq,pU,qV,tq,uX,xK,Al,Dp,G9,MK,TV]];exact ⟨_,rfl,St.jD (n:=2) (xs:=([(1,4),(2,3)]:List (Nat×Int)).flatMap (dF g)) 0 aAM rfl rfl rfl⟩
  refine zN 7 ?_;by_cases aeJ:x.ek=3
  ·refine zN 6 ?_;have aeK:=xJ.drew;refine aK 16 aeK [] ?_;refine aL 6 ?_;refine ak (v:= .agg #[pV g 9,iV 1048576]) 6 rfl aeK (λ_ _=>fT) ?_;refine aL 4 ?_;refine ak (v:= .agg #[pV g 10,iV 1073741824]) 11 rfl aeK (λ_ _=>fT) ?_;refine dG ?_;refine aX 12 ?_;refine jJ (i:=12) rfl rfl (V:=λb=> .slice (aD b 0) 4 4) (row:= #[pV g 1,iV 4,pV g 2,iV 3,pV g 9,iV 1048576,pV g 10,iV 1073741824]) (t:=141) aeK (wn rfl) rfl rfl (aV (vs:=[(0,.agg #[pV g 1,iV 4]),(1,.agg #[pV g 2,iV 3]),(2,.agg #[pV g 9,iV 1048576]),(3,.agg #[pV g 10,iV 1073741824])]) rfl ⟨rfl,rfl,rfl,rfl,rfl,rfl,rfl,rfl,trivial⟩ (by kernel_rfl)) ?_;intro aHM aHN aAN;refine aL 4 ?_;refine zN 6 ?_;rw [show bX x.kd x.ek=⟨#[97,99,107]⟩ from by simp [bX,nC,oq,pU,qV,tq,uX,xK,Al,Dp,G9,MK,TV,aeJ]];have aeG:=aAN.aT [4,3,2,1];rw [show bM x.kd x.ek=some [(1,4),(2,3),(9,1048576),(10,1073741824)] from by simp [bM,nC,oq,pU,qV,tq,uX,xK,Al,Dp,G9,MK,TV,aeJ]];exact ⟨_,rfl,St.jD (n:=4) (xs:=([(1,4),(2,3),(9,1048576),(10,1073741824)]:List (Nat×Int)).flatMap (dF g)) 0 aeG rfl rfl rfl⟩
  refine zN 18 ?_;rw [show bX x.kd x.ek=⟨#[]⟩ from by simp [bX,nC,oq,pU,qV,tq,uX,xK,Al,Dp,G9,MK,TV,aeJ]];rw [show bM x.kd x.ek=none from by simp [bM,nC,oq,pU,qV,tq,uX,xK,Al,Dp,G9,MK,TV,aeJ]];exact ⟨rfl,xJ.low⟩
 refine zN 17 ?_;rw [show bX x.kd x.ek=⟨#[]⟩ from by simp [bX,nC,oq,pU,qV,tq,uX,xK,Al,Dp,G9]];rw [show bM x.kd x.ek=none from by simp [bM,nC,oq,pU,qV,tq,uX,xK,Al,Dp,G9]];exact ⟨rfl,xJ.low⟩
theorem Ej (x:Ac) (w:World):
    Calls Tryz.prog 33 #[.agg #[iV x.kd,iV x.nd,iV x.qu,iV x.at_,iV x.kp,iV x.ek,iV x.ep,iV x.ei,iV x.eb,iV x.eh,iV x.en]] w (l5 w (bF x)):=by
 have S:=St.start w;refine gy 57 Tryz.func33 ?_;refine cw [0] ?_;refine zN 2 ?_;refine iC S ?_;intro b1 w2 S3;refine zN 4 ?_;have HF:=λw h=>Vt b1 x w h
 rcases hf:bM x.kd x.ek with _ | l
 ·rw [hf] at HF;refine zQ ?_;refine dN an3 (HF _ (St.lC 0 S3 rfl rfl rfl)) ?_;rintro _ w4 ⟨rfl,hb6⟩;refine ⟨_,rfl,?_⟩;have S5:=S3.on hb6;refine zN 25 ?_;rw [Wh hf];exact ⟨rfl,S5.low⟩
 rw [hf] at HF;have hl5:=acw hf;refine zQ ?_;refine dN an3 (HF _ (St.lC 0 S3 rfl rfl rfl)) ?_;rintro _ w8 ⟨A7,rfl,T10⟩;refine ⟨_,rfl,?_⟩;have S9:=S3.ext T10 rfl;refine zN 28 ?_;refine eD (X:=Nat) (λxv=>[(1,pV b1 0),(2,iV 0),(4,.slice A7 l.length l.length),(17,.slice A7 l.length l.length),(18,iV ((l.length:Nat):Int)),(19,iV ((xv:Nat):Int))]) (λxv wr=>(xv<=l.length)/\((l.take xv).all (Kv x)=true)/\St w.heap.size w wr [.cZ 2 A7 l.length ((l).flatMap (dF b1)),.blk b1 #[iV x.kd,iV x.nd,iV x.qu,iV x.at_,iV x.kp,iV x.ek,iV x.ep,iV x.ei,iV x.eb,iV x.eh,iV x.en] 69]) (λxv=>l.length-xv) (0) ?_ ?_ ?_
 ·exact ⟨Nat.zero_le _,rfl,S9⟩
 ·exact ⟨rfl,rfl,rfl,rfl,rfl,rfl,trivial⟩
 rintro k FM ⟨ajw,JZ,lN⟩
 try dsimp only at ajw JZ lN
 refine bn (l':=[(1,pV b1 0),(2,iV 0),(4,.slice A7 l.length l.length),(17,.slice A7 l.length l.length),(18,iV ((l.length:Nat):Int)),(19,iV ((k:Nat):Int))]) ⟨rfl,rfl,rfl,rfl,rfl,rfl,trivial⟩ (aH (aB ?_));by_cases h15:((k:Nat):Int)< ((l.length:Nat):Int)
 ·refine zN 11 ?_;obtain ⟨b16,o17,rfl⟩:=Rd.addr (St.cZ 0 lN rfl) (by omega);obtain ⟨x18,C9⟩:=Ho k (St.cZ 0 lN rfl) (by omega);refine vv (jX k) ?_;refine vv (ah rfl rfl (aA (cs:=(dF b1) x18) Tryz.underlying141 rfl rV rfl (Rd.uY (St.cZ 0 lN rfl) (λ_ _ h=>bC (enc:=(dF b1)) (sz:=2) (λ_=>rfl) C9 h)))) ?_;refine fO lN DT ?_;intro b20 EH iI;refine sa 0 iI rV ?_;intro Jp jy;refine zN 2 ?_;have hp:=M7 hf x18 (List.mem_of_getElem? C9);refine zQ ?_;refine dY jy mixed (by kernel_rfl) ?_;refine zN 3 ?_;refine uv (v:=iV (x.get x18.1)) (λ_ ajG=>(ah rfl rfl (av Tryz.underlying3 rfl (St.cl 2 ajG rfl (Ac.aje x hp.2.1))))) ?_;by_cases h29:x.get x18.1<0
  ·refine zN 10 ?_;refine fC λWp oZ=>?_;refine zN 14 ?_;rw [Io hf (Wi C9 (by omega))];exact ⟨rfl,oZ.low⟩
  refine zN 5 ?_;refine ug (v:=iV (x.get x18.1)) (λ_ aAO=>(ah rfl rfl (av Tryz.underlying3 rfl (St.cl 2 aAO rfl (Ac.aje x hp.2.1))))) ?_;refine zN 2 ?_;by_cases h43:x18.2<x.get x18.1
  ·refine zN 2 ?_;refine fC λWy xY=>?_;refine zN 14 ?_;rw [Io hf (Wi C9 (by omega))];exact ⟨rfl,xY.low⟩
  refine zN 2 ?_;refine fC λR7 uq=>?_;refine zN 6 ?_;refine vv (v:=iV ((k+1:Nat):Int)) jg ?_;refine zN 2 ?_;have nT:=uq.aT [0];refine aU (k+1) ?_ ⟨rfl,rfl,rfl,rfl,rfl,rfl,trivial⟩ (by first | omega | (dsimp only;omega));exact ⟨(by omega),(acz C9 JZ (by omega)),nT⟩
 refine zN 19 ?_;obtain rfl:k=l.length:=by omega
 have hall:=JZ;rw [List.take_length] at hall;refine eD (X:=Nat) (λxv=>[(1,pV b1 0),(2,iV 0),(38,.slice A7 l.length l.length),(39,iV ((l.length:Nat):Int)),(40,iV ((xv:Nat):Int))]) (λxv wr=>(xv<=l.length)/\St w.heap.size w wr [.cZ 2 A7 l.length ((l).flatMap (dF b1)),.blk b1 (oF (wW x.ints (l.take xv))) 69]) (λxv=>l.length-xv) (0) ?_ ?_ ?_
 ·exact ⟨Nat.zero_le _,lN⟩
 ·exact ⟨rfl,rfl,rfl,rfl,rfl,trivial⟩
 rintro j w53 ⟨MC,mD⟩
 try dsimp only at MC mD
 refine bn (l':=[(1,pV b1 0),(2,iV 0),(38,.slice A7 l.length l.length),(39,iV ((l.length:Nat):Int)),(40,iV ((j:Nat):Int))]) ⟨rfl,rfl,rfl,rfl,rfl,trivial⟩ (aH (aB ?_));by_cases h56:((j:Nat):Int)< ((l.length:Nat):Int)
 ·refine zN 11 ?_;obtain ⟨b57,o58,rfl⟩:=Rd.addr (St.cZ 0 mD rfl) (by omega);obtain ⟨x59,akX⟩:=Ho j (St.cZ 0 mD rfl) (by omega);refine vv (jX j) ?_;refine vv (ah rfl rfl (aA (cs:=(dF b1) x59) Tryz.underlying141 rfl rV rfl (Rd.uY (St.cZ 0 mD rfl) (λ_ _ h=>bC (enc:=(dF b1)) (sz:=2) (λ_=>rfl) akX h)))) ?_;refine fO mD DT ?_;intro b61 Ws u6;refine sa 0 u6 rV ?_;intro WK EP;refine zN 6 ?_;have hp:=M7 hf x59 (List.mem_of_getElem? akX);refine Gw (row':=oF (wW x.ints (l.take (j+1)))) 2 EP (wn rfl) rfl rfl rfl rfl rfl rfl mU rfl (by rw [mq (by rw [wR];rfl)];omega) (by rw [zP,acA akX]) ?_;intro R6 sI;refine zN 4 ?_;refine vv (v:=iV ((j+1:Nat):Int)) jg ?_;refine zN 2 ?_;have yQ:=sI.aT [0];refine aU (j+1) ?_ ⟨rfl,rfl,rfl,rfl,rfl,trivial⟩ (by first | omega | (dsimp only;omega));exact ⟨(by omega),yQ⟩
 refine zN 12 ?_;obtain rfl:j=l.length:=by omega
 rw [List.take_length] at mD;refine zN 2 ?_;refine vv (ah rfl rfl (av Tryz.underlying3 rfl (St.cl 1 mD rfl (XP (by rw [Pq _ _ (λp hp=>(M7 hf p hp).1)];rfl))))) ?_;by_cases h69:x.kd=2
 ·refine zN 7 ?_;refine Gw (row':=oF ((wW x.ints l).set 5 0)) 1 mD (wn rfl) rfl rfl rfl rfl rfl rfl mU rfl (by rw [mq (by simp only [List.length_set,wR];rfl)];decide) zP ?_;intro XZ rz;refine zN 5 ?_;refine Gw (row':=oF (((wW x.ints l).set 5 0).set 0 0)) 1 rz (wn rfl) rfl rfl rfl rfl rfl rfl mU rfl (by rw [mq (by simp only [List.length_set,wR];rfl)];decide) zP ?_;intro w72 rY;refine zN 4 ?_;have hfn:fin x l=((wW x.ints l).set 5 0).set 0 0:=by unfold fin;rw [if_pos h69]
  have hfl:(((wW x.ints l).set 5 0).set 0 0).length=11:=by simp only [List.length_set,wR];rfl
  have HN:=λw=>abh (a:=((wW x.ints l).set 5 0).set 0 0) (b:=zeros) hfl rfl w;rw [<-hfn] at HN;by_cases hfi:fin x l=zeros
  ·rw [decide_eq_true hfi] at HN;rw [hfn] at HN;refine zQ ?_;refine vv (v:= .agg (oF (((wW x.ints l).set 5 0).set 0 0))) (ah rfl rfl (nW 1 rY rfl Tryz.underlying69 rfl jH (mq hfl))) ?_;refine zQ ?_;refine vv (v:= .bool false) (aF rfl rfl rfl (uI (by kernel_rfl) (HN _))) ?_;refine zN 12 ?_;rw [aij hf hall hfi];exact ⟨rfl,rY.low⟩
  rw [decide_eq_false hfi] at HN;rw [hfn] at HN;refine zQ ?_;refine vv (v:= .agg (oF (((wW x.ints l).set 5 0).set 0 0))) (ah rfl rfl (nW 1 rY rfl Tryz.underlying69 rfl jH (mq hfl))) ?_;refine zQ ?_;refine vv (v:= .bool true) (aF rfl rfl rfl (uI (by kernel_rfl) (HN _))) ?_;refine zN 11 ?_;rw [M8 hf hall hfi];exact ⟨rfl,rY.low⟩
 refine zN 9 ?_;refine Gw (row':=oF ((wW x.ints l).set 0 0)) 1 mD (wn rfl) rfl rfl rfl rfl rfl rfl mU rfl (by rw [mq (by simp only [List.length_set,wR];rfl)];decide) zP ?_;intro w74 EC;refine zN 4 ?_;have hfn:fin x l=(wW x.ints l).set 0 0:=by unfold fin;rw [if_neg h69]
 have hfl:((wW x.ints l).set 0 0).length=11:=by simp only [List.length_set,wR];rfl
 have HN:=λw=>abh (a:=(wW x.ints l).set 0 0) (b:=zeros) hfl rfl w;rw [<-hfn] at HN;by_cases hfi:fin x l=zeros
 ·rw [decide_eq_true hfi] at HN;rw [hfn] at HN;refine zQ ?_;refine vv (v:= .agg (oF ((wW x.ints l).set 0 0))) (ah rfl rfl (nW 1 EC rfl Tryz.underlying69 rfl jH (mq hfl))) ?_;refine zQ ?_;refine vv (v:= .bool false) (aF rfl rfl rfl (uI (by kernel_rfl) (HN _))) ?_;refine zN 12 ?_;rw [aij hf hall hfi];exact ⟨rfl,EC.low⟩
 rw [decide_eq_false hfi] at HN;rw [hfn] at HN;refine zQ ?_;refine vv (v:= .agg (oF ((wW x.ints l).set 0 0))) (ah rfl rfl (nW 1 EC rfl Tryz.underlying69 rfl jH (mq hfl))) ?_;refine zQ ?_;refine vv (v:= .bool true) (aF rfl rfl rfl (uI (by kernel_rfl) (HN _))) ?_;refine zN 11 ?_;rw [M8 hf hall hfi];exact ⟨rfl,EC.low⟩
def jL:List Ac->Nat->Int×Int
 | [],n=>(n,0)
 | x::xs,n=>if bF x≠0 then (0,bF x) else jL xs (if x.kd=2 then n+1 else n)
section
variable {l:List Ac} {k n:Nat} {x:Ac}
theorem Fa {α:Type} {l:List α} {k:Nat} {x:α} (h:l[k]? =some x):l.drop k=x::l.drop (k+1):=by
 obtain ⟨hk,rfl⟩:=List.getElem?_eq_some_iff.1 h;exact List.drop_eq_getElem_cons hk
theorem Z5 (h:l[k]? =some x) (hf: ¬ bF x=0):jL (l.drop k) n=(0,bF x):=by rw [Fa h,jL,if_pos hf]
theorem Z6 (h:l[k]? =some x) (hf:bF x=0) (hk:x.kd=2):jL (l.drop k) n=jL (l.drop (k+1)) (n+1):=by rw [Fa h,jL,if_neg (by simp [hf]),if_pos hk]
theorem adS (h:l[k]? =some x) (hf:bF x=0) (hk: ¬ x.kd=2):jL (l.drop k) n=jL (l.drop (k+1)) n:=by rw [Fa h,jL,if_neg (by simp [hf]),if_neg hk]
theorem Z7 (h:l.length<=k):jL (l.drop k) n=((n:Int),0):=by rw [List.drop_of_length_le h,jL]
end
theorem atG {x:Ac} (h:bF x=0) (hk:x.kd=2):bE ⟨x.ek,x.ep,x.ei,x.eb,x.eh,x.en⟩=0:=by
 obtain ⟨kd,nd,qu,at_,kp,ek,ep,ei,eb,eh,en⟩:=x;dsimp only at hk;subst hk
 rcases kinds 2 ek with h1 | h1 | h1 | h1 | h1 | h1 | h1 | h1 | h1 | ⟨_,rfl⟩ | ⟨_,rfl⟩ | ⟨_,rfl⟩ | hn
 all_goals first | (cases h1;done) | (simp [bF,bM,Kv,Ac.get,Ac.ints,fin,wW,zeros] at h;simp [bE,jU];omega) | (unfold bF at h;dsimp only at h;rw [hn] at h;cases h)
def Z8 (w:World) (r:Int×Int) (e:Ending) (w':World):Prop:=e= .returned (.tuple #[iV r.1,iV r.2])/\Below w.heap.size w w'
theorem JG (x:Ac) (h0:bF x=0) (w:World):
    Calls Tryz.prog 34 #[.agg #[iV x.kd,iV x.nd,iV x.qu,iV x.at_,iV x.kp,iV x.ek,iV x.ep,iV x.ei,iV x.eb,iV x.eh,iV x.en]] w (Bd w (decide (x.kd=2))):=by
 have S:=St.start w;refine gy 12 Tryz.func34 ?_;refine cw [0] ?_;refine zN 2 ?_;refine iC S ?_;intro b1 w2 S3;refine zN 7 ?_;by_cases h4:x.kd=2
 ·refine zN 3 ?_;refine vg (ah rfl rfl (aA (cs:=[iV x.ek,iV x.ep,iV x.ei,iV x.eb,iV x.eh,iV x.en]) Tryz.underlying55 rfl iy rfl (St.rg 0 S3 rfl (je (x:=5) (m:=6) rfl)))) ?_;have HE:=λw=>zK ⟨x.ek,x.ep,x.ei,x.eb,x.eh,x.en⟩ w;rw [atG h0 h4] at HE;refine vY ajn (HE _) ?_;rintro _ w5 ⟨rfl,hb7⟩;refine ⟨_,rfl,?_⟩;have S6:=S3.on hb7;refine zN 7 ?_;rw [decide_eq_true h4];exact ⟨rfl,S6.low⟩
 refine zN 12 ?_;rw [decide_eq_false h4];exact ⟨rfl,S3.low⟩
theorem OC (A:Option Addr) (c:Nat) (l:List Ac) (w:World) (h:Rd w w.heap.size 11 A l.length (l.flatMap Ac.cells)) (hb:l.length*88<=reachBytes):
    Calls Tryz.prog 21 #[.slice A l.length c] w (Z8 w (jL l 0)):=by
 have S:=(St.start w).bZ h;have hb2:=hb;unfold reachBytes at hb2;refine gy 25 Tryz.func21 ?_;refine cw [0] ?_;refine zN 20 ?_;refine eD (X:=Nat×Nat) (λxv=>[(2,iV 0),(3,iV 0),(8,.slice A l.length c),(9,iV ((l.length:Nat):Int)),(10,iV ((xv.1:Nat):Int)),(4,iV ((xv.2:Nat):Int))]) (λxv wr=>(xv.1<=l.length)/\(jL l 0=jL (l.drop xv.1) xv.2)/\(xv.2<=xv.1)/\St w.heap.size w wr [.rd 11 A l.length ((l).flatMap Ac.cells)]) (λxv=>l.length-xv.1) (0,0) ?_ ?_ ?_
 ·exact ⟨Nat.zero_le _,rfl,Nat.le_refl _,S⟩
 ·exact ⟨rfl,rfl,rfl,rfl,rfl,rfl,trivial⟩
 rintro ⟨k,n⟩ w1 ⟨hi3,hi4,hi5,S2⟩
 try dsimp only at hi3 hi4 hi5 S2
 refine bn (l':=[(2,iV 0),(3,iV 0),(8,.slice A l.length c),(9,iV ((l.length:Nat):Int)),(10,iV ((k:Nat):Int)),(4,iV ((n:Nat):Int))]) ⟨rfl,rfl,rfl,rfl,rfl,rfl,trivial⟩ (aH (aB ?_));by_cases h6:((k:Nat):Int)< ((l.length:Nat):Int)
 ·refine zN 11 ?_;obtain ⟨b7,o8,rfl⟩:=Rd.addr (St.rd 0 S2 rfl) (by omega);obtain ⟨x9,aeL⟩:=Ho k (St.rd 0 S2 rfl) (by omega);refine vv (jX k) ?_;refine vv (ah rfl rfl (aA (cs:=Ac.cells x9) Tryz.underlying69 rfl jH rfl (Rd.uY (St.rd 0 S2 rfl) (λ_ _ h=>bC (enc:=Ac.cells) (sz:=11) (λ_=>rfl) aeL h)))) ?_;refine fO S2 XM ?_;intro b11 XW wX;refine sa 0 wX jH ?_;intro HY gZ;refine zN 6 ?_;refine cab an0 gZ (Ej x9 _) ?_;intro w16 jZ;refine zN 6 ?_;by_cases h19:bF x9=0
  ·refine zN 9 ?_;by_cases aeM:x9.kd=2
   ·have aqX:=λ(w:World)=>JG x9 h19 w;rw [decide_eq_true aeM] at aqX;refine dN an2 (aqX _) ?_;rintro _ YD ⟨rfl,E5⟩;refine ⟨_,rfl,?_⟩;have lQ:=jZ.on E5;clear E5 jZ;refine zN 5 ?_;refine vv (v:=iV ((n+1:Nat):Int)) jg ?_;refine zN 5 ?_;refine vv (v:=iV ((k+1:Nat):Int)) jg ?_;refine zN 2 ?_;have jm:=lQ.aT [0];refine aU (k+1,n+1) ?_ ⟨rfl,rfl,rfl,rfl,rfl,rfl,trivial⟩ (by first | omega | (dsimp only;omega));exact ⟨(by dsimp only;omega),(by dsimp only;rw [hi4];exact Z6 aeL h19 aeM),(by dsimp only;omega),jm⟩
   have YB:=λ(w:World)=>JG x9 h19 w;rw [decide_eq_false aeM] at YB;refine dN an2 (YB _) ?_;rintro _ KA ⟨rfl,O1⟩;refine ⟨_,rfl,?_⟩;have qJ:=jZ.on O1;clear O1 jZ;refine zN 7 ?_;refine vv (v:=iV ((k+1:Nat):Int)) jg ?_;refine zN 2 ?_;have yB:=qJ.aT [0];refine aU (k+1,n) ?_ ⟨rfl,rfl,rfl,rfl,rfl,rfl,trivial⟩ (by first | omega | (dsimp only;omega));exact ⟨(by dsimp only;omega),(by dsimp only;rw [hi4];exact adS aeL h19 aeM),(by dsimp only;omega),yB⟩
  refine zN 19 ?_;rw [hi4,Z5 aeL h19];exact ⟨rfl,jZ.low⟩
 refine zN 19 ?_;rw [hi4,Z7 (by omega)];exact ⟨rfl,S2.low⟩
instance:yt Ac where
 size:=11
 ints x:=x.ints
 of l:=⟨l.getD 0 0,l.getD 1 0,l.getD 2 0,l.getD 3 0,l.getD 4 0,l.getD 5 0,l.getD 6 0,l.getD 7 0,l.getD 8 0,l.getD 9 0,l.getD 10 0⟩
 pos:=by omega
 len _:=rfl
 inv xs h:=by
  obtain ⟨a1,xs,rfl⟩:=List.exists_cons_of_length_eq_add_one h;obtain ⟨a2,xs,rfl⟩:=List.exists_cons_of_length_eq_add_one (Nat.succ.inj h);have h:=Nat.succ.inj (Nat.succ.inj h);obtain ⟨a3,xs,rfl⟩:=List.exists_cons_of_length_eq_add_one h;obtain ⟨a4,xs,rfl⟩:=List.exists_cons_of_length_eq_add_one (Nat.succ.inj h);have h:=Nat.succ.inj (Nat.succ.inj h);obtain ⟨a5,xs,rfl⟩:=List.exists_cons_of_length_eq_add_one h;obtain ⟨a6,xs,rfl⟩:=List.exists_cons_of_length_eq_add_one (Nat.succ.inj h);have h:=Nat.succ.inj (Nat.succ.inj h);obtain ⟨a7,xs,rfl⟩:=List.exists_cons_of_length_eq_add_one h;obtain ⟨a8,xs,rfl⟩:=List.exists_cons_of_length_eq_add_one (Nat.succ.inj h);have h:=Nat.succ.inj (Nat.succ.inj h);obtain ⟨a9,xs,rfl⟩:=List.exists_cons_of_length_eq_add_one h;obtain ⟨a10,xs,rfl⟩:=List.exists_cons_of_length_eq_add_one (Nat.succ.inj h);have h:=Nat.succ.inj (Nat.succ.inj h);obtain ⟨a11,xs,rfl⟩:=List.exists_cons_of_length_eq_add_one h;obtain rfl:=List.eq_nil_of_length_eq_zero (Nat.succ.inj h);rfl
def uJ:List Ac->Int
 | []=>0
 | a::l=>if bF a≠0 then bF a else uJ l
def Am (l:List Ac):Int:=if 100000<l.length then 1 else uJ l
section
variable {l:List Ac} {k:Nat} {x:Ac}
theorem anG (h:l[k]? =some x) (hf:bF x=0):uJ (l.drop k)=uJ (l.drop (k+1)):=by rw [drop_cons h,uJ,if_neg (λe=>e hf)]
theorem ahF (h:l[k]? =some x) (hf: ¬ bF x=0):uJ (l.drop k)=bF x:=by rw [drop_cons h,uJ,if_pos hf]
theorem Ni (h: ¬ 100000<l.length):Am l=uJ l:=if_neg h
theorem adT (h:100000<l.length):Am l=1:=if_pos h
theorem JH: ∀ {l:List Ac},uJ l=0-> ∀ a∈l,bF a=0
 | [],_,a,ha=>by simp at ha
 | x::l,h,a,ha=>by
  rw [uJ] at h
  split at h
  ·rename_i hx;exact absurd h hx
  rename_i hx
  rcases List.mem_cons.1 ha with rfl | ha
  ·exact Classical.not_not.1 hx
  exact JH h a ha
theorem ahG (h:Am l=0):l.length<=100000/\ ∀ a∈l,bF a=0:=by
 unfold Am at h
 split at h
 ·cases h
 exact ⟨by omega,JH h⟩
theorem ahH (h:l[k]? =some x):l.take (k+1)=l.take k++[x]:=by rw [List.take_add_one,h];rfl
theorem adU {m:Cl} {l:List Ac}:m.run (l++[x])=(m.run l).act x:=by unfold Cl.run;rw [List.foldl_append];rfl
end
def El (fl:Nat) (U:Nat->Bool) (d:Dir) (bv sv tv:Value) (calls:Nat):List Value:=
 [iV ((fl:Nat):Int),.bool (U 0),.bool (U 1),.bool (U 2),.bool (U 3),.bool (U 4),iV d.p0.node,iV d.p0.epoch,iV d.p1.node,iV d.p1.epoch,iV d.p2.node,iV d.p2.epoch,iV d.p3.node,iV d.p3.epoch,bv,sv,tv,iV ((calls:Nat):Int)]
def nD (fl:Nat) (U:Nat->Bool) (d:Dir) (bv sv tv:Value) (calls:Nat):Array Value:=(El fl U d bv sv tv calls).toArray
def ahI:Array Value:= #[iV 0,.bool false,.bool false,.bool false,.bool false,.bool false,iV 0,iV 0,iV 0,iV 0,iV 0,iV 0,iV 0,iV 0,.slice none 0 0,.slice none 0 0,.slice none 0 0,iV 0]
section
variable {fl calls q k:Nat} {U:Nat->Bool} {d:Dir} {bv sv tv fv nv:Value} {sh:Nat->Nat->Int×Int}
theorem ajf (h1:bv.oneCell'=true) (h2:sv.oneCell'=true) (h3:tv.oneCell'=true): ∀ u∈(nD fl U d bv sv tv calls).toList,u.oneCell'=true:=by
 intro u hu;simp only [nD,El,List.mem_cons,List.not_mem_nil,or_false] at hu
 rcases hu with rfl | rfl | rfl | rfl | rfl | rfl | rfl | rfl | rfl | rfl | rfl | rfl | rfl | rfl | rfl | rfl | rfl | rfl<;>first | rfl | assumption
theorem TW {fl' calls' o:Nat} {U':Nat->Bool} {d':Dir} {bv' sv' tv':Value} {vs:List Value} (h:o+vs.length<=18) (he:(El fl U d bv sv tv calls).take o++vs++(El fl U d bv sv tv calls).drop (o+vs.length)=El fl' U' d' bv' sv' tv' calls'):
  dn (nD fl U d bv sv tv calls) o vs=nD fl' U' d' bv' sv' tv' calls':=Array.ext' (by rw [gQ _ _ _ h];exact he)
theorem aAP {fl':Nat}:dn (nD fl U d bv sv tv calls) 0 [iV ((fl':Nat):Int)]=nD fl' U d bv sv tv calls:=TW (Nat.le_of_ble_eq_true rfl) rfl
theorem aAQ {d':Dir}:dn (nD fl U d bv sv tv calls) 6 d'.cells=nD fl U d' bv sv tv calls:=TW (Nat.le_of_ble_eq_true rfl) rfl
theorem ajg {x:Value}:dn (nD fl U d bv sv tv calls) 14 [x]=nD fl U d x sv tv calls:=TW (Nat.le_of_ble_eq_true rfl) rfl
theorem atH (hq:q<5) {v:Bool}:dn (nD fl U d bv sv tv calls) (1+q*1) [.bool v]=nD fl (upd U q v) d bv sv tv calls:=by
 rcases five hq with rfl | rfl | rfl | rfl | rfl<;>exact TW (Nat.le_of_ble_eq_true rfl) rfl
theorem ahJ: ∀ (j:Nat) (u:Value),(nD 0 (λ_=>false) (⟨⟨0,0⟩,⟨0,0⟩,⟨0,0⟩,⟨0,0⟩⟩:Dir) (.slice none 0 0) sv tv calls).toList[j]? =some u->(kN nv d fv sh sv tv calls)[50+j]? =some u:=by
 intro j u h;have hj:j<18:=(List.getElem?_eq_some_iff.1 h).1;have h2:j=0\/j=1\/j=2\/j=3\/j=4\/j=5\/j=6\/j=7\/j=8\/j=9\/j=10\/j=11\/j=12\/j=13\/j=14\/j=15\/j=16\/j=17:=by omega
 rcases h2 with rfl | rfl | rfl | rfl | rfl | rfl | rfl | rfl | rfl | rfl | rfl | rfl | rfl | rfl | rfl | rfl | rfl | rfl<;>exact h
end
def jM (p:Nat×List BX):List Value:=[.slice (aD p.1 0) 4 4]
structure P1 (L:List Fact) (m:Cl) (j:Nat) (p:Nat×List BX):Prop where
 rd:Ro L 6 (aD p.1 0) 4 (p.2.flatMap BX.cells)
 bm:p.2.map BX.b=vB (m.au j).view
 bo: ∀ y∈p.2,Aa L y
theorem P1.mono {L L':List Fact} {m:Cl} {j:Nat} {p:Nat×List BX} (h:P1 L m j p) (hl: ∀ f∈L,f∈L'):P1 L' m j p:=⟨h.rd.mono hl,h.bm,λy hy=>(h.bo y hy).mono hl⟩
def TY (L:List Fact) (m:Cl) (row:Array Value):Prop:= ∃ (U:Nat->Bool) (BA:Option Addr) (bc:Nat) (sA:Option Addr) (sc:Nat) (tA:Option Addr) (tc:Nat) (ps:List (Nat×List BX)),row=nD m.fly.length U m.off (.slice BA 5 bc) (.slice sA m.aP.length sc) (.slice tA m.aZ.length tc) m.calls/\(∀ j,j<5->U j=(m.au j).up)/\ps.length=5/\
 Ro L 1 BA 5 (ps.flatMap jM)/\Ro L 14 sA m.aP.length (m.aP.flatMap jA.cells)/\Ro L 7 tA m.aZ.length (m.aZ.flatMap sO.cells)/\ ∀ j p,ps[j]? =some p->P1 L m j p
section
variable {K:CK} {R:CX} {B n k:Nat} {w0 w:World} {fs gs N E L LC:List Fact} {m:Cl} {H:List LX} {X:Nd} {z:NX} {ps:List (Nat×List BX)} {p:Nat×List BX} {bs:List BX} {bB:Nat} {U:Nat->Bool}
theorem Wd.top (h:Wd K B w0 w fs m H):St B w0 w fs:=by
 obtain ⟨R,_,S⟩:=h;exact S.sub (List.sublist_append_left _ _)
open Classical in
theorem St.shut (hn:n<5) (S:St B w0 w (jT K n (m.au n) (R.nx n)++(sU K R m++(gs++fP K R m fs n)))):St B w0 w (gs++(fs++kR K R m)):=by
 refine S.perm (List.perm_iff_count.2 λa=>?_);have h1:=List.perm_iff_count.1 (tT (λj=>jT K j (m.au j) (R.nx j)) hn) a;unfold fP kR lu;simp only [List.count_append] at h1⊢;omega
open Classical in
theorem St.ajh (hn:n<5) (S:St B w0 w (jT K n (m.au n) (R.nx n)++(sU K R m++(gs++((N++(fs++(lu K R m n++R.L)))++E))))):St B w0 w (gs++((E++N)++(fs++kR K R m))):=by
 refine S.perm (List.perm_iff_count.2 λa=>?_);have h1:=List.perm_iff_count.1 (tT (λj=>jT K j (m.au j) (R.nx j)) hn) a;unfold kR lu;simp only [List.count_append] at h1⊢;omega
open Classical in
theorem St.aAR (hn:n<5) (S:St B w0 w (gs++(N++(fs++kR K R m)))):St B w0 w (jT K n (m.au n) (R.nx n)++(sU K R m++(gs++(N++(fs++(lu K R m n++R.L)))))):=by
 refine S.perm (List.perm_iff_count.2 λa=>?_);have h1:=List.perm_iff_count.1 (tT (λj=>jT K j (m.au j) (R.nx j)) hn) a;unfold kR lu;simp only [List.count_append] at h1⊢;omega
open Classical in
theorem St.atI (S:St B w0 w (gs++(N++(fs++LC)))):St B w0 w ((gs++(N++LC))++fs):=by
 refine S.perm (List.perm_iff_count.2 λa=>?_);simp only [List.count_append];omega
theorem ML (hl:ps.length=k) (h: ∀ j p,ps[j]? =some p->P1 L m j p) (hn:P1 L m k p): ∀ j q,(ps++[p])[j]? =some q->P1 L m j q:=λj q hq=>by
 by_cases e:j<ps.length
 ·rw [List.getElem?_append_left e] at hq;exact h j q hq
 rw [List.getElem?_append_right (by omega)] at hq;have:j-ps.length=0:=by
  have:=(List.getElem?_eq_some_iff.1 hq).1;rw [List.length_singleton] at this;omega
 rw [this] at hq
 cases hq;rw [show j=k by omega];exact hn
theorem anI (hk:k<5) (hz:R.nx k=z):Fact.own 73 6 (.slice (aD z.bb 0) 4 4) 4 (z.bx.flatMap BX.cells)∈kR K R m:=by
 subst hz;refine List.mem_append_right _ (List.mem_append_left _ (List.mem_flatMap.2 ⟨k,List.mem_range.2 hk,?_⟩));exact List.mem_cons_of_mem _ (List.mem_cons_self ..)
theorem ahK (h:dS K R.L k (m.au k) (R.nx k)) (hX:m.au k=X) (hz:R.nx k=z) (hu:X.up=true) (hk:k<5):P1 (N++kR K R m) m k (z.bb,z.bx):=by
 have ho:=anI (K:=K) (m:=m) hk hz;subst hX;subst hz;refine ⟨Ro.own (List.mem_append_right _ ho),?_,λy hy=>(h.Qb y hy).mono λf hf=>List.mem_append_right _ (List.mem_append_right _ (List.mem_append_right _ hf))⟩;rw [Nb hu];exact h.Oq
theorem ahL (hm:bs.map BX.b=vB (cu X.data X.syn)) (hc: ∀ y∈bs,y.b.evs.length<=y.c) (hX:m.au k=X) (hu:X.up=false):P1 ((Fact.own 73 6 (.slice (aD bB 0) 4 4) 4 (bs.flatMap BX.cells)::(eP bs++N))++LC) m k (bB,bs):=by
 subst hX;refine ⟨Ro.own (List.mem_append_left _ (List.mem_cons_self ..)),?_,λy hy=>(MH hc y hy).mono λf hf=>List.mem_append_left _ (List.mem_cons_of_mem _ (List.mem_append_left _ hf))⟩;unfold Nd.view;rw [if_neg (by rw [hu];simp)];exact hm
theorem Qq (h: ∀ j,j<k->U j=(m.au j).up) (hX:m.au k=X): ∀ j,j<k+1->upd U k X.up j=(m.au j).up:=λj hj=>by
 by_cases e:j=k
 ·rw [e,upd_same,hX]
 rw [upd_ne e];exact h j (by omega)
theorem ahM {OA:Option Addr} {oc:Nat} (G:Good K R m H) (hl:ps.length=5) (hU: ∀ j,j<5->U j=(m.au j).up) (hL:Fact.own 74 1 (.slice OA ps.length oc) ps.length (ps.flatMap jM)∈L) (hC: ∀ f∈kR K R m,f∈L) (hp: ∀ j p,ps[j]? =some p->P1 L m j p):
  TY L m (nD R.fx.length U m.off (.slice OA ps.length oc) (.slice R.sA m.aP.length R.sc) (.slice R.tA m.aZ.length R.tc) m.calls):=by
 rw [hl] at hL⊢;have hf:R.fx.length=m.fly.length:=by rw [<-G.fly,List.length_map]
 have h1:Fact.own 60 14 (.slice R.sA m.aP.length R.sc) m.aP.length (m.aP.flatMap jA.cells)∈kR K R m:=List.mem_append_left _ (List.mem_cons_of_mem _ (List.mem_cons_of_mem _ (List.mem_cons_self ..)));have h2:Fact.own 81 7 (.slice R.tA m.aZ.length R.tc) m.aZ.length (m.aZ.flatMap sO.cells)∈kR K R m:=List.mem_append_left _ (List.mem_cons_of_mem _ (List.mem_cons_of_mem _ (List.mem_cons_of_mem _ (List.mem_cons_self ..))));exact ⟨U,OA,oc,R.sA,R.sc,R.tA,R.tc,ps,by rw [hf],hU,hl,Ro.own hL,Ro.own (hC _ h1),Ro.own (hC _ h2),hp⟩
end
theorem Z9 {B:Nat} {w0 w:World} {fs:List Fact} {A:Option Addr} {c:Nat} {l:List Ac} (S:St B w0 w fs) (hu:Uk B w0) (zF:Ro fs 11 A l.length (l.flatMap Ac.cells)) (hb:l.length*88<=reachBytes):
    Calls Tryz.prog 23 #[.slice A l.length c] w (λe w'=>(Am l≠0->e= .returned (.tuple #[.agg ahI,iV (Am l)])/\St B w0 w' fs)/\(Am l=0-> ∃ row L,e= .returned (.tuple #[.agg row,iV 0])/\TY L (zW.run l) row/\St B w0 w' (L++fs))):=by
 have hb2:=hb;unfold reachBytes at hb2;refine gy 99 Tryz.func23 ?_;refine cw [0] ?_;refine zN 2 ?_;refine fO S aec ?_;intro b1 w2 S3;refine zN 8 ?_;by_cases h4:100000< ((l.length:Nat):Int)
 ·refine zN 7 ?_;refine sa 0 S3 AZ ?_;intro w5 S6;refine zN 6 ?_;have S7:=S6.aT [0];have hsf:Am l=1:=adT (by omega);refine ⟨λ_=>⟨by rw [hsf];rfl,S7⟩,λh=>?_⟩;rw [hsf] at h;exact absurd h (by first | decide | assumption)
 refine zN 15 ?_;refine eD (X:=Nat) (λxv=>[(0,.slice A l.length c),(2,pV b1 0),(3,iV 0),(18,.slice A l.length c),(19,iV ((l.length:Nat):Int)),(20,iV ((xv:Nat):Int))]) (λxv wr=>(xv<=l.length)/\(uJ l=uJ (l.drop xv))/\St B w0 wr ((.blk b1 #[iV 0,.bool false,.bool false,.bool false,.bool false,.bool false,iV 0,iV 0,iV 0,iV 0,iV 0,iV 0,iV 0,iV 0,.slice none 0 0,.slice none 0 0,.slice none 0 0,iV 0] 35)::fs)) (λxv=>l.length-xv) (0) ?_ ?_ ?_
 ·exact ⟨Nat.zero_le _,rfl,S3⟩
 ·exact ⟨rfl,rfl,rfl,rfl,rfl,rfl,trivial⟩
 rintro k1 w8 ⟨lU,J5,S9⟩
 try dsimp only at lU J5 S9
 refine bn (l':=[(0,.slice A l.length c),(2,pV b1 0),(3,iV 0),(18,.slice A l.length c),(19,iV ((l.length:Nat):Int)),(20,iV ((k1:Nat):Int))]) ⟨rfl,rfl,rfl,rfl,rfl,rfl,trivial⟩ (aH (aB ?_));by_cases h12:((k1:Nat):Int)< ((l.length:Nat):Int)
 ·refine zN 10 ?_;obtain ⟨x,hx⟩: ∃ x,l[k1]? =some x:=⟨_,List.getElem?_eq_getElem (by omega)⟩;obtain ⟨ab_,ao_,hAb⟩:=uF zF S9 (memT 1 rfl dO) (by omega);refine zQ ?_;refine vv (v:=pV ab_ (ao_+k1*11)) (aO rfl rfl rfl (cB k1 hAb Tryz.underlying23 jH (by omega) (by omega))) ?_;refine vv (v:= .agg #[iV x.kd,iV x.nd,iV x.qu,iV x.at_,iV x.kp,iV x.ek,iV x.ep,iV x.ei,iV x.eb,iV x.eh,iV x.en]) (ah rfl rfl (aA (cs:=Ac.cells x) Tryz.underlying69 rfl jH rfl (λj u hu=>by rw [Nat.add_assoc];exact iG zF hAb S9 (memT 1 rfl dO) (bC (enc:=Ac.cells) (sz:=11) (k:=k1) (λ_=>rfl) hx hu)))) ?_;refine fO S9 XM ?_;intro b13 HY gZ;refine sa 0 gZ jH ?_;intro w16 jZ;refine zN 5 ?_;refine cab an0 jZ (Ej x _) ?_;intro Ht kM;refine zN 6 ?_;by_cases h21:bF x=0
  ·refine zN 8 ?_;refine vv (v:=iV ((k1+1:Nat):Int)) jg ?_;refine zN 2 ?_;have iI:=kM.aT [0];refine aU (k1+1) ?_ ⟨rfl,rfl,rfl,rfl,rfl,rfl,trivial⟩ (by first | omega | (dsimp only;omega));exact ⟨(by omega),(by rw [J5];exact anG hx h21),iI⟩
  refine zN 8 ?_;refine sa 1 kM AZ ?_;intro Jp jy;refine zN 10 ?_;have jm:=jy.aT [1,0];have hsf:Am l=bF x:=by rw [Ni (by omega),J5];exact ahF hx h21
  refine ⟨λ_=>⟨by rw [hsf];rfl,jm⟩,λh=>?_⟩;rw [hsf] at h;exact absurd h (by first | decide | assumption)
 refine zN 12 ?_;have aqY:Am l=0:=by rw [Ni (by omega),J5,List.drop_eq_nil_of_le (by omega)];rfl
 obtain ⟨aCX,hall⟩:=ahG aqY;refine dN avE (Ry S9 hu) ?_;rintro _ KA ⟨K,rfl,aAS⟩;refine ⟨_,rfl,?_⟩;have aaQ:Wd K B w0 KA ((.blk b1 #[iV 0,.bool false,.bool false,.bool false,.bool false,.bool false,iV 0,iV 0,iV 0,iV 0,iV 0,iV 0,iV 0,iV 0,.slice none 0 0,.slice none 0 0,.slice none 0 0,iV 0] 35)::fs) zW []:=aAS;have qJ:=Wd.top aaQ;obtain ⟨kw,cO⟩: ∃ b,K.wb=b:=⟨_,rfl⟩;obtain ⟨n,hn0⟩: ∃ n,n=0:=⟨_,rfl⟩;have hn:n<5:=by omega
 obtain ⟨kn,hkn⟩: ∃ b,K.nb n=b:=⟨_,rfl⟩;rw [cO];refine zN 12 ?_;refine eD (X:=Nat×Cl) (λxv=>[(2,pV b1 0),(3,iV 0),(7,pV kw 0),(32,.slice A l.length c),(33,iV ((l.length:Nat):Int)),(34,iV ((xv.1:Nat):Int))]) (λxv wr=>(Wd K B w0 wr ((.blk b1 #[iV 0,.bool false,.bool false,.bool false,.bool false,.bool false,iV 0,iV 0,iV 0,iV 0,iV 0,iV 0,iV 0,iV 0,.slice none 0 0,.slice none 0 0,.slice none 0 0,iV 0] 35)::fs) xv.2 [])/\(xv.2=zW.run (l.take xv.1))/\(Bs xv.2 xv.1)/\(ShN xv.2)/\(xv.1<=l.length)/\St B w0 wr ((.blk b1 #[iV 0,.bool false,.bool false,.bool false,.bool false,.bool false,iV 0,iV 0,iV 0,iV 0,iV 0,iV 0,iV 0,iV 0,.slice none 0 0,.slice none 0 0,.slice none 0 0,iV 0] 35)::fs)) (λxv=>l.length-xv.1) (0,zW) ?_ ?_ ?_
 ·exact ⟨aaQ,rfl,aj9,λ_ _=>Int.le_refl _,Nat.zero_le _,Wd.top aaQ⟩
 ·exact ⟨rfl,rfl,rfl,rfl,rfl,rfl,trivial⟩
 rintro ⟨k2,mm⟩ w29 ⟨aac,GH,wu,O9,akH,yB⟩
 try dsimp only at aac GH wu O9 akH yB
 refine bn (l':=[(2,pV b1 0),(3,iV 0),(7,pV kw 0),(32,.slice A l.length c),(33,iV ((l.length:Nat):Int)),(34,iV ((k2:Nat):Int))]) ⟨rfl,rfl,rfl,rfl,rfl,rfl,trivial⟩ ?_;obtain ⟨R3,G3,Sn⟩:=aac.open hn;have Qp:=G3.lW n hn;obtain ⟨X3,Ai⟩: ∃ X,mm.au n=X:=⟨_,rfl⟩;obtain ⟨z3,hz3⟩: ∃ z,R3.nx n=z:=⟨_,rfl⟩;rw [Ai,hz3] at Sn Qp;obtain ⟨W9,G7⟩: ∃ r,fP K R3 mm fs n=r:=⟨_,rfl⟩;have aqZ: ∀ f∈fs,f∈W9:=λf hf=>G7▸List.mem_append_left _ hf;have kF:St B w0 w29 (cN kn n X3 z3 z3.pv (cF kw R3 mm ((.blk b1 #[iV 0,.bool false,.bool false,.bool false,.bool false,.bool false,iV 0,iV 0,iV 0,iV 0,iV 0,iV 0,iV 0,iV 0,.slice none 0 0,.slice none 0 0,.slice none 0 0,iV 0] 35)::W9))):=by rw [<-G7];subst hkn;subst cO;exact Sn
 clear Sn;refine zN 2 ?_;by_cases h37:((k2:Nat):Int)< ((l.length:Nat):Int)
 ·refine zN 10 ?_;obtain ⟨x,hx⟩: ∃ x,l[k2]? =some x:=⟨_,List.getElem?_eq_getElem (by omega)⟩;obtain ⟨ab_,ao_,hAb⟩:=uF zF kF (memT 8 rfl aqZ) (by omega);have hxa:=Tt (hall x (List.mem_of_getElem? hx));refine zQ ?_;refine vv (v:=pV ab_ (ao_+k2*11)) (aO rfl rfl rfl (cB k2 hAb Tryz.underlying23 jH (by omega) (by omega))) ?_;refine vv (v:= .agg #[iV x.kd,iV x.nd,iV x.qu,iV x.at_,iV x.kp,iV x.ek,iV x.ep,iV x.ei,iV x.eb,iV x.eh,iV x.en]) (ah rfl rfl (aA (cs:=Ac.cells x) Tryz.underlying69 rfl jH rfl (λj u hu=>by rw [Nat.add_assoc];exact iG zF hAb kF (memT 8 rfl aqZ) (bC (enc:=Ac.cells) (sz:=11) (k:=k2) (λ_=>rfl) hx hu)))) ?_;refine fO kF XM ?_;intro b38 w39 u7;refine sa 0 u7 jH ?_;intro w41 uL;refine zN 5 ?_;have rX:=uL.aT [0];have aAT:=Wd.dL (m:=mm) (m':=mm) (H:=[]) (H':=[]) (fs:=(.blk b1 #[iV 0,.bool false,.bool false,.bool false,.bool false,.bool false,iV 0,iV 0,iV 0,iV 0,iV 0,iV 0,iV 0,iV 0,.slice none 0 0,.slice none 0 0,.slice none 0 0,iV 0] 35)::fs) (X':=X3) (z':=z3) (Ls:=[]) (fA:=R3.fA) (fc:=R3.fc) (fx:=R3.fx) (sA:=R3.sA) (sc:=R3.sc) (tA:=R3.tA) (tc:=R3.tc) (rr:=(.blk b1 #[iV 0,.bool false,.bool false,.bool false,.bool false,.bool false,iV 0,iV 0,iV 0,iV 0,iV 0,iV 0,iV 0,iV 0,.slice none 0 0,.slice none 0 0,.slice none 0 0,iV 0] 35)::W9) hkn cO (by rw [<-G7];rfl) G3 hn rX Qp.more (λu hu=> .inl hu) (aJ Ai).symm G3.fly.symm mI;refine dN avF (adQ (n:=x.nd.toNat) (q:=x.qu.toNat) (by have:=hxa.nd;omega) (by have:=hxa.qu;omega) (by have:=hxa.nd;omega) (by have:=hxa.qu;omega) rfl cO hu aAT wu (by omega) hxa O9) ?_;rintro _ Wy ⟨rfl,akY⟩;refine ⟨_,rfl,?_⟩;have xY:=Wd.top akY;refine zN 4 ?_;refine vv (v:=iV ((k2+1:Nat):Int)) jg ?_;refine zN 2 ?_;refine aU (k2+1,mm.act x) ?_ ⟨rfl,rfl,rfl,rfl,rfl,rfl,trivial⟩ (by first | omega | (dsimp only;omega));exact ⟨akY,(by dsimp only;rw [ahH hx,adU,<-GH]),(by dsimp only;exact Si wu hxa (by omega)),(by dsimp only;exact ShN.act O9),(by dsimp only;omega),(Wd.top akY)⟩
 refine zN 11 ?_;have hmm:mm=zW.run l:=by rw [GH,List.take_of_length_le (by omega)]
 have pY:=wu;obtain ⟨R,G,S0⟩:=aac.open hn;have NG:=G.lW n hn;obtain ⟨X,hX⟩: ∃ X,mm.au n=X:=⟨_,rfl⟩;obtain ⟨z,hz⟩: ∃ z,R.nx n=z:=⟨_,rfl⟩;rw [hX,hz] at S0 NG;obtain ⟨rr,hrr⟩: ∃ r,fP K R mm fs n=r:=⟨_,rfl⟩;have hfr: ∀ f∈fs,f∈rr:=λf hf=>hrr▸List.mem_append_left _ hf;have uZ:St B w0 w29 (cN kn n X z z.pv (cF kw R mm ((.blk b1 #[iV 0,.bool false,.bool false,.bool false,.bool false,.bool false,iV 0,iV 0,iV 0,iV 0,iV 0,iV 0,iV 0,iV 0,.slice none 0 0,.slice none 0 0,.slice none 0 0,iV 0] 35)::rr))):=by rw [<-hrr];subst hkn;subst cO;exact S0
 clear S0;have hcl:=pY.calls;have hfl:R.fx.length=mm.fly.length:=by rw [<-G.fly,List.length_map]
 refine zN 4 ?_;refine vv (v:= .agg (nD 0 (λ_=>false) (⟨⟨0,0⟩,⟨0,0⟩,⟨0,0⟩,⟨0,0⟩⟩:Dir) (.slice none 0 0) (.slice R.sA mm.aP.length R.sc) (.slice R.tA mm.aZ.length R.tc) mm.calls)) (ah rfl rfl (aA (cs:=(nD 0 (λ_=>false) (⟨⟨0,0⟩,⟨0,0⟩,⟨0,0⟩,⟨0,0⟩⟩:Dir) (.slice none 0 0) (.slice R.sA mm.aP.length R.sc) (.slice R.tA mm.aZ.length R.tc) mm.calls).toList) Tryz.underlying35 rfl AZ rfl (St.rg 3 uZ rfl ahJ))) ?_;refine fO uZ aec ?_;intro KH R7 uq;refine stA 0 uq AZ ?_ (h1:=by exact ajf (fl:=0) (U:=(λ_=>false)) (d:=(⟨⟨0,0⟩,⟨0,0⟩,⟨0,0⟩,⟨0,0⟩⟩:Dir)) (bv:= .slice none 0 0) (sv:= .slice R.sA mm.aP.length R.sc) (tv:= .slice R.tA mm.aZ.length R.tc) (calls:=mm.calls) rfl rfl rfl);intro w52 wo;refine zN 2 ?_;have mD:=wo.dZ [4,1];refine zQ ?_;have uK:=mD.drew;refine aK 13 uK [0] ?_;refine aL 3 ?_;refine ak (v:= .slice R.fA R.fx.length R.fc) 3 rfl (St.del 0 uK) (λ_ OP=>(ah rfl rfl (av Tryz.underlying106 rfl (St.cl 0 OP rfl O5)))) ?_;refine aL 4 ?_;refine ak (v:= .agg ((mm.off.cells).toArray)) 8 rfl (St.del 0 uK) (λ_ XR=>(ah rfl rfl (aA (cs:=(mm.off.cells)) Tryz.underlying30 rfl oC rfl (St.rg 0 XR rfl (wJ))))) ?_;refine dG ?_;refine aX 10 ?_;refine snz 10 rfl 0 uK mU ?_ (hs:=by exact aAP);intro R6 sI;refine aL 2 ?_;refine aX 12 ?_;refine snz 12 rfl 0 sI oC ?_ (h1:=uz _) (hs:=by exact aAQ);intro w69 tO;refine aL 2 ?_;refine zN 3 ?_;obtain ⟨ab,ao,pX⟩:=Ag G.arr tO (memT 9 rfl λf hf=>hrr▸List.mem_append_right _ (List.mem_append_right _ hf));refine zN 4 ?_;refine vv (v:= .slice R.nA 5 R.nc) (ah rfl rfl (av Tryz.underlying105 rfl (St.cl 1 tO rfl yK))) ?_;refine zN 5 ?_;have rz:=tO.dZ [7,7,7,4,7,7,7];have DV:=St.shut (gs:=[.blk KH (nD R.fx.length (λ_=>false) mm.off (.slice none 0 0) (.slice R.sA mm.aP.length R.sc) (.slice R.tA mm.aZ.length R.tc) mm.calls) 35,.blk b1 #[iV 0,.bool false,.bool false,.bool false,.bool false,.bool false,iV 0,iV 0,iV 0,iV 0,iV 0,iV 0,iV 0,iV 0,.slice none 0 0,.slice none 0 0,.slice none 0 0,iV 0] 35]) hn (by subst hkn;subst cO;rw [hX,hz,show fP K R mm fs n=rr from hrr];exact rz);have rY:=DV.nil 74 1;obtain ⟨LC,hLC⟩: ∃ f,f=kR K R mm:=⟨_,rfl⟩;obtain ⟨LF,hLF⟩: ∃ f,f=fs++LC:=⟨_,rfl⟩;rw [<-hLC,<-hLF] at rY;refine eD (X:=Nat×(Nat->Bool)×(List (Nat×List BX))×(Option Addr)×Nat×(List Fact)) (λxv=>[(2,pV b1 0),(3,iV 0),(10,pV KH 0),(60,.slice R.nA 5 R.nc),(61,iV 5),(62,iV ((xv.1:Nat):Int))]) (λxv wr=>(xv.1<=5)/\(xv.2.2.1.length=xv.1)/\(∀ j p,xv.2.2.1[j]? =some p->P1 (xv.2.2.2.2.2++LC) mm j p)/\(∀ j,j<xv.1->xv.2.1 j=(mm.au j).up)/\St B w0 wr ((.own 74 1 (.slice xv.2.2.2.1 xv.2.2.1.length xv.2.2.2.2.1) xv.2.2.1.length ((xv.2.2.1).flatMap jM))::(.blk KH (nD R.fx.length xv.2.1 mm.off (.slice xv.2.2.2.1 xv.2.2.1.length xv.2.2.2.2.1) (.slice R.sA mm.aP.length R.sc) (.slice R.tA mm.aZ.length R.tc) mm.calls) 35)::(.blk b1 #[iV 0,.bool false,.bool false,.bool false,.bool false,.bool false,iV 0,iV 0,iV 0,iV 0,iV 0,iV 0,iV 0,iV 0,.slice none 0 0,.slice none 0 0,.slice none 0 0,iV 0] 35)::(xv.2.2.2.2.2++LF))) (λxv=>5-xv.1) (0,(λ_=>false),[],none,0,[]) ?_ ?_ ?_
 ·exact ⟨Nat.zero_le _,rfl,(λj p hp=>by simp at hp),(λj hj=>absurd hj (Nat.not_lt_zero _)),rY⟩
 ·exact ⟨rfl,rfl,rfl,rfl,rfl,rfl,trivial⟩
 rintro ⟨k,U9,ps,OA,oc,N9⟩ w74 ⟨aq0,aad,aeN,aeO,EC⟩
 try dsimp only at aq0 aad aeN aeO EC
 refine bn (l':=[(2,pV b1 0),(3,iV 0),(10,pV KH 0),(60,.slice R.nA 5 R.nc),(61,iV 5),(62,iV ((k:Nat):Int))]) ⟨rfl,rfl,rfl,rfl,rfl,rfl,trivial⟩ ?_;have hk5:k<=5:=aq0;refine zN 2 ?_;by_cases h80:((k:Nat):Int)<5
 ·refine zN 10 ?_;have hk4:k<5:=by omega
  have S9:=St.aAR (n:=k) (gs:=[.own 74 1 (.slice OA ps.length oc) ps.length ((ps).flatMap jM),.blk KH (nD R.fx.length U9 mm.off (.slice OA ps.length oc) (.slice R.sA mm.aP.length R.sc) (.slice R.tA mm.aZ.length R.tc) mm.calls) 35,.blk b1 #[iV 0,.bool false,.bool false,.bool false,.bool false,.bool false,iV 0,iV 0,iV 0,iV 0,iV 0,iV 0,iV 0,iV 0,.slice none 0 0,.slice none 0 0,.slice none 0 0,iV 0] 35]) (N:=N9) (fs:=fs) hk4 (by rw [<-hLC,<-hLF];exact EC);obtain ⟨X3,Ai⟩: ∃ X,mm.au k=X:=⟨_,rfl⟩;obtain ⟨z3,hz3⟩: ∃ z,R.nx k=z:=⟨_,rfl⟩;obtain ⟨knk,aeP⟩: ∃ b,K.nb k=b:=⟨_,rfl⟩;obtain ⟨rk,Le⟩: ∃ r,fs++(lu K R mm k++R.L)=r:=⟨_,rfl⟩;have Qp:=G.lW k hk4;rw [Ai,hz3] at S9 Qp;rw [Le] at S9;have hLk: ∀ f∈R.L,f∈rk:=λf hf=>Le▸List.mem_append_right _ (List.mem_append_right _ hf);have tK:St B w0 w74 (cN knk k X3 z3 z3.pv (cF kw R mm ((.own 74 1 (.slice OA ps.length oc) ps.length ((ps).flatMap jM))::(.blk KH (nD R.fx.length U9 mm.off (.slice OA ps.length oc) (.slice R.sA mm.aP.length R.sc) (.slice R.tA mm.aZ.length R.tc) mm.calls) 35)::(.blk b1 #[iV 0,.bool false,.bool false,.bool false,.bool false,.bool false,iV 0,iV 0,iV 0,iV 0,iV 0,iV 0,iV 0,iV 0,.slice none 0 0,.slice none 0 0,.slice none 0 0,iV 0] 35)::(N9++rk)))):=by subst aeP;subst cO;exact S9
  clear S9;refine zN 2 ?_;refine vv (v:=pV ab (ao+k*1)) (aO rfl rfl rfl (cB k pX Tryz.underlying105 aa6 (by omega) (by omega))) ?_;refine vv (v:=pV knk 0) (ah rfl rfl (av Tryz.underlying113 rfl (aeP▸uE (pX▸G.arr) hk4 tK (memT 10 rfl λf hf=>List.mem_append_right _ (hLk f hf))))) ?_;refine zN 12 ?_;refine vv (v:=pV KH (1+k*1)) (aO rfl rfl rfl (fD k Tryz.underlying25 Gq rfl hk4)) ?_;refine zf (cs:= #[.bool X3.up]) (row':=nD R.fx.length (upd U9 k X3.up) mm.off (.slice OA ps.length oc) (.slice R.sA mm.aP.length R.sc) (.slice R.tA mm.aZ.length R.tc) mm.calls) (fs':=(_::_::_::_::_::_::_::_::(.blk KH (nD R.fx.length (upd U9 k X3.up) mm.off (.slice OA ps.length oc) (.slice R.sA mm.aP.length R.sc) (.slice R.tA mm.aZ.length R.tc) mm.calls) 35)::_::(N9++rk))) 8 tK (wn rfl) rfl rfl rfl rfl rfl rfl Gq rfl (bL rfl) (by show 1+k*1+1<=18;omega) (atH hk4 (v:=X3.up)) rfl ?_;intro w82 zR;refine zN 13 ?_
  rcases hup:X3.up with _ | _
  ·refine zN 4 ?_;refine vv (v:= .bool false) (ME hup (ah rfl rfl (av Tryz.underlying4 rfl (St.cl 0 zR rfl rfl)))) ?_;refine zN 8 ?_;refine vv (ah rfl rfl (aA (cs:=[.slice z3.tA X3.data.length z3.tc,iV X3.syn]) Tryz.underlying116 rfl eZ rfl (St.rg 0 zR rfl (qN)))) ?_;have hrd:=(pY.lW k hk4).OB;rw [Ai] at hrd;refine dN an1 (FY z3.tA z3.tc X3.data X3.syn _ (Qp.wM.rd zR (memT 10 rfl λf hf=>List.mem_append_right _ (hLk f hf))) hrd.1 hrd.2.2.1) ?_;rintro _ w87 ⟨A84,c85,bB,bs,hbm,hbl,hbc,rfl,T86⟩;refine ⟨_,rfl,?_⟩;have KD:=zR.ext T86 (by simp [IQ,Fact.F3]);have Kw:St B w0 w87 ((oB bB bs)::(.cZ 1 A84 ((jw X3.data X3.syn).1.length) (byteCells ((jw X3.data X3.syn).1)))::(cN knk k X3 z3 z3.pv (cF kw R mm ((.own 74 1 (.slice OA ps.length oc) ps.length ((ps).flatMap jM))::(.blk KH (nD R.fx.length (upd U9 k X3.up) mm.off (.slice OA ps.length oc) (.slice R.sA mm.aP.length R.sc) (.slice R.tA mm.aZ.length R.tc) mm.calls) 35)::(.blk b1 #[iV 0,.bool false,.bool false,.bool false,.bool false,.bool false,iV 0,iV 0,iV 0,iV 0,iV 0,iV 0,iV 0,iV 0,.slice none 0 0,.slice none 0 0,.slice none 0 0,iV 0] 35)::((N9++rk)++eP bs))))):=St.perm KD (List.Perm.cons _ (List.Perm.cons _ (List.perm_append_comm (l₁:=eP bs))));clear zR;refine zN 10 ?_;refine bsI Kw ?_;intro b90 w91 xW;refine dI (news:=[.slice (aD bB 0) 4 4]) (xs':=((ps++[(bB,bs)])).flatMap jM) 10 xW (wn rfl) rfl rfl rfl rfl rfl rfl (St.lC (xs:=[.slice (aD bB 0) 4 4]) 0 xW rfl rfl rfl) Tryz.underlying31 aa4 rfl (by decide) (bL rfl) (by simp only [maxLen];omega) (by omega) (iO (enc:=jM) rfl rfl) ?_;intro A93 c94 w95 aHO aHP Co;refine zQ ?_;refine jk 11 Co aav ?_ (hs:=by exact ajg);intro w99 qR;refine zN 4 ?_;refine vv (v:=iV ((k+1:Nat):Int)) jg ?_;refine zN 2 ?_;have sN:=qR.aT [2,0];have rG:=sN.dZ [0,10,10,10,10,10,10,10,10,10,10];have oP:St B w0 w99 ((.own 74 1 (.slice A93 (ps.length+1) c94) (ps.length+1) (((ps++[(bB,bs)])).flatMap jM))::(.blk KH (nD R.fx.length (upd U9 k X3.up) mm.off (.slice A93 (ps.length+1) c94) (.slice R.sA mm.aP.length R.sc) (.slice R.tA mm.aZ.length R.tc) mm.calls) 35)::(.blk b1 #[iV 0,.bool false,.bool false,.bool false,.bool false,.bool false,iV 0,iV 0,iV 0,iV 0,iV 0,iV 0,iV 0,iV 0,.slice none 0 0,.slice none 0 0,.slice none 0 0,iV 0] 35)::(((oB bB bs)::(eP bs++N9))++LF)):=by
    rw [hLF,hLC];exact St.ajh (n:=k) (gs:=[.own 74 1 (.slice A93 (ps.length+1) c94) (ps.length+1) (((ps++[(bB,bs)])).flatMap jM),.blk KH (nD R.fx.length (upd U9 k X3.up) mm.off (.slice A93 (ps.length+1) c94) (.slice R.sA mm.aP.length R.sc) (.slice R.tA mm.aZ.length R.tc) mm.calls) 35,.blk b1 #[iV 0,.bool false,.bool false,.bool false,.bool false,.bool false,iV 0,iV 0,iV 0,iV 0,iV 0,iV 0,iV 0,iV 0,.slice none 0 0,.slice none 0 0,.slice none 0 0,iV 0] 35,.own 73 6 (.slice (aD bB 0) 4 4) 4 ((bs).flatMap BX.cells)]) (N:=N9) (E:=eP bs) (fs:=fs) hk4 (by subst aeP;subst cO;rw [Ai,hz3];rw [<-Le] at rG;exact rG)
   have Sq:ps.length+1=(ps++[(bB,bs)]).length:=by simp
   rw [Sq] at oP;refine aU (k+1,upd U9 k X3.up,(ps++[(bB,bs)]),A93,c94,(.own 73 6 (.slice (aD bB 0) 4 4) 4 ((bs).flatMap BX.cells)::(eP bs++N9))) ?_ ⟨rfl,rfl,rfl,rfl,rfl,rfl,trivial⟩ (by first | omega | (dsimp only;omega));exact ⟨(by dsimp only;omega),(by dsimp only;rw [List.length_append,aad];rfl),(by dsimp only;exact ML aad (λj p hp=>(aeN j p hp).mono (λf hf=>(List.mem_append.1 hf).elim (λh=>List.mem_append_left _ (List.mem_cons_of_mem _ (List.mem_append_right _ h))) λh=>List.mem_append_right _ h)) (ahL hbm hbc Ai hup)),(by dsimp only;exact Qq aeO Ai),oP⟩
  refine zN 4 ?_;refine vv (v:= .bool true) (ME hup (ah rfl rfl (av Tryz.underlying4 rfl (St.cl 0 zR rfl rfl)))) ?_;refine zN 10 ?_;refine bsI zR ?_;intro aHQ aqk yN;refine dI (news:=[.slice (aD z3.bb 0) 4 4]) (xs':=((ps++[(z3.bb,z3.bx)])).flatMap jM) 8 yN (wn rfl) rfl rfl rfl rfl rfl rfl (St.lC (xs:=[.slice (aD z3.bb 0) 4 4]) 0 yN rfl rfl rfl) Tryz.underlying31 aa4 rfl (by decide) (bL rfl) (by simp only [maxLen];omega) (by omega) (iO (enc:=jM) rfl rfl) ?_;intro TI TJ XU aCY aCZ qg;refine zQ ?_;refine jk 9 qg aav ?_ (hs:=by exact ajg);intro ajX Da;refine zN 4 ?_;refine vv (v:=iV ((k+1:Nat):Int)) jg ?_;refine zN 2 ?_;have qm:=Da.aT [0];have xC:=qm.dZ [9,9,9,9,9,9,9,9,9,9];have yM:St B w0 ajX ((.own 74 1 (.slice TI (ps.length+1) TJ) (ps.length+1) (((ps++[(z3.bb,z3.bx)])).flatMap jM))::(.blk KH (nD R.fx.length (upd U9 k X3.up) mm.off (.slice TI (ps.length+1) TJ) (.slice R.sA mm.aP.length R.sc) (.slice R.tA mm.aZ.length R.tc) mm.calls) 35)::(.blk b1 #[iV 0,.bool false,.bool false,.bool false,.bool false,.bool false,iV 0,iV 0,iV 0,iV 0,iV 0,iV 0,iV 0,iV 0,.slice none 0 0,.slice none 0 0,.slice none 0 0,iV 0] 35)::(N9++LF)):=by
   rw [hLF,hLC];exact St.ajh (n:=k) (gs:=[.own 74 1 (.slice TI (ps.length+1) TJ) (ps.length+1) (((ps++[(z3.bb,z3.bx)])).flatMap jM),.blk KH (nD R.fx.length (upd U9 k X3.up) mm.off (.slice TI (ps.length+1) TJ) (.slice R.sA mm.aP.length R.sc) (.slice R.tA mm.aZ.length R.tc) mm.calls) 35,.blk b1 #[iV 0,.bool false,.bool false,.bool false,.bool false,.bool false,iV 0,iV 0,iV 0,iV 0,iV 0,iV 0,iV 0,iV 0,.slice none 0 0,.slice none 0 0,.slice none 0 0,iV 0] 35]) (N:=N9) (E:=[]) (fs:=fs) hk4 (by subst aeP;subst cO;rw [Ai,hz3,List.append_nil];rw [<-Le] at xC;exact xC)
  have Sq:ps.length+1=(ps++[(z3.bb,z3.bx)]).length:=by simp
  rw [Sq] at yM;refine aU (k+1,upd U9 k X3.up,(ps++[(z3.bb,z3.bx)]),TI,TJ,N9) ?_ ⟨rfl,rfl,rfl,rfl,rfl,rfl,trivial⟩ (by first | omega | (dsimp only;omega));exact ⟨(by dsimp only;omega),(by dsimp only;rw [List.length_append,aad];rfl),(by dsimp only;exact ML aad (λj p hp=>(aeN j p hp).mono (λf hf=>hf)) (hLC▸ahK (G.lW k hk4) Ai hz3 hup hk4)),(by dsimp only;exact Qq aeO Ai),yM⟩
 refine zN 13 ?_;refine stA 2 EC AZ ?_ (h1:=by exact ajf (fl:=R.fx.length) (U:=U9) (d:=mm.off) (bv:= .slice OA ps.length oc) (sv:= .slice R.sA mm.aP.length R.sc) (tv:= .slice R.tA mm.aZ.length R.tc) (calls:=mm.calls) rfl rfl rfl);intro akA rJ;refine zN 5 ?_;have hsf:Am l=0:=aqY;refine ⟨λh=>absurd hsf h,λ_=>?_⟩;have pR:=rJ.aT [2,1];have h5:k=5:=by omega
 rw [hLF] at pR;refine ⟨_,[.own 74 1 (.slice OA ps.length oc) ps.length ((ps).flatMap jM)]++(N9++LC),rfl,?_,St.atI (gs:=[.own 74 1 (.slice OA ps.length oc) ps.length ((ps).flatMap jM)]) (N:=N9) (fs:=fs) (LC:=LC) pR⟩;rw [<-hmm];exact ahM (ps:=ps) G (by omega) (λj hj=>aeO j (by omega)) (List.mem_append_left _ (List.mem_singleton.2 rfl)) (λf hf=>List.mem_append_right _ (List.mem_append_right _ (hLC▸hf))) (λj p hp=>(aeN j p hp).mono λf hf=>List.mem_append_right _ hf)
theorem anL {B:Nat} {w0 w:World} {fs:List Fact} {A:Option Addr} {c:Nat} {l:List Ac} (h0:Am l=0) (S:St B w0 w fs) (hu:Uk B w0) (zF:Ro fs 11 A l.length (l.flatMap Ac.cells)) (hb:l.length*88<=reachBytes):
  Calls Tryz.prog 23 #[.slice A l.length c] w (λe w'=> ∃ row L,e= .returned (.tuple #[.agg row,iV 0])/\TY L (zW.run l) row/\St B w0 w' (L++fs)):=(Z9 S hu zF hb).mono λ_ _ h=>h.2 h0
structure OX where
 fl:Nat
 U:Nat->Bool
 d:Dir
 BA:Option Addr
 bc:Nat
 sA:Option Addr
 sn:Nat
 sc:Nat
 tA:Option Addr
 tn:Nat
 tc:Nat
 calls:Nat
def OX.cells (x:OX):List Value:=El x.fl x.U x.d (.slice x.BA 5 x.bc) (.slice x.sA x.sn x.sc) (.slice x.tA x.tn x.tc) x.calls
structure aae (L:List Fact) (m:Cl) (x:OX):Prop where
 up: ∀ j,j<5->x.U j=(m.au j).up
 d:x.d=m.off
 fl:x.fl=m.fly.length
 sn:x.sn=m.aP.length
 tn:x.tn=m.aZ.length
 calls:x.calls=m.calls
 ps: ∃ ps:List (Nat×List BX),ps.length=5/\Ro L 1 x.BA 5 (ps.flatMap jM)/\ ∀ j p,ps[j]? =some p->P1 L m j p
 aP:Ro L 14 x.sA x.sn (m.aP.flatMap jA.cells)
 aZ:Ro L 7 x.tA x.tn (m.aZ.flatMap sO.cells)
theorem TY.x {L:List Fact} {m:Cl} {row:Array Value} (h:TY L m row): ∃ x:OX,row=x.cells.toArray/\aae L m x:=by
 obtain ⟨U,BA,bc,sA,sc,tA,tc,ps,rfl,hU,hl,hB,hs,ht,hP⟩:=h;exact ⟨⟨m.fly.length,U,m.off,BA,bc,sA,m.aP.length,sc,tA,m.aZ.length,tc,m.calls⟩,rfl,hU,rfl,rfl,rfl,rfl,rfl,⟨ps,hl,hB,hP⟩,hs,ht⟩
theorem aae.mono {L L':List Fact} {m:Cl} {x:OX} (h:aae L m x) (hl: ∀ f∈L,f∈L'):aae L' m x:=by
 obtain ⟨h1,h2,h3,h4,h5,h6,⟨ps,h7,h8,h9⟩,h10,h11⟩:=h;exact ⟨h1,h2,h3,h4,h5,h6,⟨ps,h7,h8.mono hl,λj p hj=>(h9 j p hj).mono hl⟩,h10.mono hl,h11.mono hl⟩
def Xb (B:Nat) (w0:World) (fs:List Fact) (l:List Ac) (e:Ending) (w':World):Prop:= ∃ x L,e= .returned (.tuple #[.agg (OX.cells x).toArray,.bool true])/\aae L (zW.run l) x/\St B w0 w' (L++fs)
theorem ahN {α:Type} {l:List α} (h:l.length=5): ∃ a b c d e,l=[a,b,c,d,e]:=by
 match l,h with
 | [a,b,c,d,e],_=>exact ⟨a,b,c,d,e,rfl⟩
theorem aaf {B:Nat} {w0 w:World} {fs:List Fact} {A:Option Addr} {c:Nat} {l:List Ac} (h0:Am l=0) (S:St B w0 w fs) (hu:Uk B w0) (zF:Ro fs 11 A l.length (l.flatMap Ac.cells)) (hb:l.length*88<=reachBytes):
    Calls Tryz.prog 12 #[.slice A l.length c] w (Xb B w0 fs l):=by
 refine gy 28 Tryz.func12 ?_;refine cw [0] ?_;refine zN 2 ?_;refine fO S aec ?_;intro b1 w2 S3;refine zN 6 ?_;refine dN avA (anL h0 S3 hu (zF.mono (memT 1 rfl dO)) hb) ?_;rintro _ w4 ⟨aHR,L8,rfl,hO9,S5⟩;refine ⟨_,rfl,?_⟩;obtain ⟨x,rfl,hX⟩:=TY.x hO9;obtain ⟨ps,hpl,hBA,hP⟩:=hX.ps;obtain ⟨p0,p1,p2,p3,p4,rfl⟩:=ahN hpl;have S6:=S5.perm (List.perm_middle (a:= .blk b1 #[iV 0,.bool false,.bool false,.bool false,.bool false,.bool false,iV 0,iV 0,iV 0,iV 0,iV 0,iV 0,iV 0,iV 0,.slice none 0 0,.slice none 0 0,.slice none 0 0,iV 0] 35) (l₁:=L8) (l₂:=fs));have AV: ∀ f∈L8,f∈L8++fs:=λf h=>List.mem_append_left _ h;obtain ⟨bA,oA,hBa⟩:=uF hBA S6 (memT 1 rfl AV) (by decide);refine zN 3 ?_;refine fO S6 aec ?_;intro b10 FM lN;refine stA 0 lN AZ ?_;intro Cm jY;refine zN 4 ?_;have gZ:=jY.drew;refine aK 19 gZ [1] ?_;refine aL 12 ?_;refine Cg (v:= .pointer (some ⟨bA,oA+0*1,none⟩)) (i:=12) (n:=6) rfl (by kernel_rfl) (by kernel_rfl) (by kernel_rfl) (St.del 1 gZ) rfl (wg rfl rfl rfl rfl) rfl rfl (λ_ _=>(aO rfl rfl rfl (cB 0 hBa Tryz.underlying31 SE (by decide) (by decide)))) ?_;refine Cg (v:= .slice (some ⟨p0.1,0,none⟩) 4 4) (i:=13) (n:=5) rfl (by kernel_rfl) (by kernel_rfl) (by kernel_rfl) (St.del 1 gZ) rfl (wg rfl rfl rfl rfl) rfl rfl (λ_ Zy=>(ah rfl rfl (av Tryz.underlying74 rfl (iG hBA hBa Zy (memT 1 rfl AV) rfl)))) ?_;refine aL 3 ?_;refine aX 17 ?_;refine XO 17 rfl 1 gZ AZ ?_;intro Wp oZ;refine aL 3 ?_;refine zN 3 ?_;have kF:=oZ.aT [1,0];exact ⟨x,L8,rfl,hX,kF⟩
theorem adV {l:List Ac} (h: ∀ a∈l,bF a=0) (hl:l.length<=1000):Am l=0:=by
 rw [Ni (by omega)];clear hl
 induction l with
 | nil=>rfl
 | cons a l ih=>rw [uJ,if_neg (by rw [h a List.mem_cons_self];simp),ih λx hx=>h x (List.mem_cons_of_mem _ hx)]
theorem ab1 {P:Program} {t:TypeId} {xo yo:Operand} {w:World} {a b:Int} (ha:0<=a) (hb:0<b):(do eqGuard .rem t xo yo (iV a) (iV b);binOp .rem t (iV a) (iV b):Sem Value).run P w= .ok (iV (a % b)) w:=by
 obtain ⟨k,rfl⟩:=Int.eq_ofNat_of_zero_le ha;obtain ⟨m,rfl⟩:=Int.eq_ofNat_of_zero_le (Int.le_of_lt hb);exact Sk (c:=k % m) rfl (by omega)
theorem atJ {P:Program} {w:World} {x:Int} (h: -9223372036854775807<=x/\x<=9223372036854775807):(Op.unary .neg (iV x)).run P w= .ok (iV (-x)) w:=by
 simp [Op.unary,Op.intArith,Int.zero_sub,wrap64_in (z:= -x) (by omega) (by omega)]
def aW (n m:Int):Int:=(if n<0 then-(n+1) else n) % m
theorem oM {n m:Int} (hm:0<m):0<=aW n m/\aW n m<m:=⟨Int.emod_nonneg _ (by omega),Int.emod_lt_of_pos _ hm⟩
def mF (k a b c:Int):Ev:=
 if aW k 8<3 then ⟨1,aW a 2,aW b 24,aW c 1000,0,0⟩ else if aW k 8<5 then ⟨2,0,0,0,0,0⟩
 else if aW k 8<7 then ⟨3,0,0,0,aW a 3,aW b 6⟩ else ⟨4,0,0,0,0,0⟩
structure Gr where
 kd:Int
 a:Int
 b:Int
 c:Int
 d:Int
def Gr.cells (g:Gr):List Value:=[iV g.kd,iV g.a,iV g.b,iV g.c,iV g.d]
def JI (x:Int):Prop:= -9223372036854775808<=x/\x<=9223372036854775807
def Gr.ok (g:Gr):Prop:=JI g.kd/\JI g.a/\JI g.b/\JI g.c/\JI g.d
def T9 (g:Gr) (e:Ev):Ac:=⟨2,aW g.a 3,aW g.b 2,0,0,if e.kind=4 then 2 else e.kind,e.producer,e.id,e.body,e.aQ,e.hno⟩
def gW (g:Gr) (cr:Bool):Ac:=
 if aW g.kd 24<7 then T9 g (mF g.c g.a g.d g.d)
 else if aW g.kd 24<13 then ⟨3,aW g.a 3,0,0,0,0,0,0,0,0,0⟩
 else if aW g.kd 24=13 then ⟨4,0,0,aW g.c 20,0,0,0,0,0,0,0⟩
 else if aW g.kd 24=14 then ⟨5,0,0,aW g.c 20,0,0,0,0,0,0,0⟩
 else if aW g.kd 24=15 then ⟨6,0,0,aW g.c 20,0,0,0,0,0,0,0⟩
 else if aW g.kd 24=16 then ⟨10,aW g.a 3,aW g.b 2,0,0,0,0,0,0,0,0⟩
 else if aW g.kd 24=17/\cr=true then ⟨8,aW g.a 3,0,0,aW g.c 120,0,0,0,0,0,0⟩
 else if aW g.kd 24=18/\cr=true then ⟨9,aW g.a 3,0,0,0,0,0,0,0,0,0⟩
 else ⟨7,0,0,0,0,0,0,0,0,0,0⟩
theorem fH {n m:Int} (hn: -9223372036854775808<=n/\n<=9223372036854775807) (hm:0<m) (w:World):
    Calls Tryz.prog 32 #[iV n,iV m] w (λe w'=>e= .returned (iV (aW n m))/\w'=w):=by
 have S:=St.start w;refine gy 13 Tryz.func32 ?_;refine cw [0,1] ?_;refine zN 9 ?_;by_cases h1:n<0
 ·refine zN 6 ?_;refine vv (v:=iV (n+1)) jg ?_;refine vv (v:=iV (-(n+1))) (aaW rfl rfl (atJ (by omega))) ?_;refine zN 7 ?_;refine vv (v:=iV ((-(n+1)) % m)) (aF rfl rfl rfl (ab1 (by omega) hm)) ?_;refine zN 5 ?_;rw [show aW n m=((-(n+1)) % m) from by unfold aW;first | rw [if_pos (by omega)] | rw [if_neg (by omega)]];exact ⟨rfl,rfl⟩
 refine zN 10 ?_;refine vv (v:=iV (n % m)) (aF rfl rfl rfl (ab1 (by omega) hm)) ?_;refine zN 5 ?_;rw [show aW n m=(n % m) from by unfold aW;first | rw [if_pos (by omega)] | rw [if_neg (by omega)]];exact ⟨rfl,rfl⟩
theorem lG {n m:Int} (hn: -9223372036854775808<=n/\n<=9223372036854775807) (hm:0<m) (w:World):
    Calls Tryz.prog 18 #[iV n,iV m] w (λe w'=>e= .returned (iV (aW n m))/\w'=w):=by
 have S:=St.start w;refine gy 8 Tryz.func18 ?_;refine cw [0,1] ?_;refine zN 9 ?_;refine dN yE (fH hn hm _) ?_;rintro _ w1 ⟨rfl,rfl⟩;refine ⟨_,rfl,?_⟩;refine zN 5 ?_;exact ⟨rfl,rfl⟩
theorem Rz {k a b c:Int} (h1:JI k) (h2:JI a) (h3:JI b) (h4:JI c) (w:World):
    Calls Tryz.prog 49 #[.agg #[iV k,iV a,iV b,iV c]] w (λe w'=>e= .returned (.agg (Ev.cells (mF k a b c)).toArray)/\Below w.heap.size w w'):=by
 have S:=St.start w;refine gy 36 Tryz.func49 ?_;refine cw [0] ?_;refine zN 2 ?_;refine iC S ?_;intro b1 w2 S3;refine fO S3 XL ?_;intro b4 w5 S6;refine zQ ?_;refine yw (vv (fu 0 VZ) ?_);refine zQ ?_;refine dN yE (fH (m:=8) h1 (by decide) _) ?_;rintro _ w7 ⟨rfl,rfl⟩;refine ⟨_,rfl,?_⟩;refine zN 5 ?_;have hp:=oM (n:=k) (m:=8) (by decide);refine zQ ?_;by_cases h8:(aW k 8)=0
 ·refine zN 9 ?_;have S9:=S6.drew;refine fq 11 10 S9 [] ?_;refine gk (v:= .pointer (some ⟨b1,1,none⟩)) 0 rfl S9 (λ_ _=>fu _ zl) ?_;refine gK ?_;refine gk (v:= .pointer (some ⟨b1,2,none⟩)) 3 rfl S9 (λ_ _=>fu _ zm) ?_;refine gK ?_;refine gk (v:= .pointer (some ⟨b1,3,none⟩)) 6 rfl S9 (λ_ _=>fu _ Gs) ?_;refine gK ?_;refine eH (m:=4) (r:=2) (by kernel_rfl) ?_;refine kQ (i:=2) rfl rfl (wn rfl) rfl rfl (iM (vs:=[iV a,iV 2]) rfl yE ⟨rfl,rfl,trivial⟩) (fH (m:=2) h2 (by decide) _) ?_;rintro _ w16 ⟨rfl,rfl⟩;refine ⟨_,rfl,?_⟩;refine gK ?_;refine eH (m:=3) (r:=5) (by kernel_rfl) ?_;refine kQ (i:=5) rfl rfl (wn rfl) rfl rfl (iM (vs:=[iV b,iV 24]) rfl yE ⟨rfl,rfl,trivial⟩) (fH (m:=24) h3 (by decide) _) ?_;rintro _ Kz ⟨rfl,rfl⟩;refine ⟨_,rfl,?_⟩;refine gK ?_;refine eH (m:=2) (r:=8) (by kernel_rfl) ?_;refine kQ (i:=8) rfl rfl (wn rfl) rfl rfl (iM (vs:=[iV c,iV 1000]) rfl yE ⟨rfl,rfl,trivial⟩) (fH (m:=1000) h4 (by decide) _) ?_;rintro _ Ht ⟨rfl,rfl⟩;refine ⟨_,rfl,?_⟩;refine gK ?_;refine gk (v:= .agg #[iV 1,iV (aW a 2),iV (aW b 24),iV (aW c 1000),iV 0,iV 0]) 9 rfl S9 (λ_ _=>fT) ?_;refine eG (by kernel_rfl) rfl rfl rfl ?_;refine sa 0 S9 iy ?_;intro WG r9;refine zQ ?_;refine iK ?_;refine zN 5 ?_;rw [show mF k a b c=⟨1,(aW a 2),(aW b 24),(aW c 1000),0,0⟩ from by unfold mF;first | rw [if_pos (by omega)] | rw [if_neg (by omega),if_pos (by omega)] | rw [if_neg (by omega),if_neg (by omega),if_pos (by omega)] | rw [if_neg (by omega),if_neg (by omega),if_neg (by omega)]];exact ⟨rfl,r9.low⟩
 refine zN 7 ?_;by_cases h22:(aW k 8)=1
 ·refine zN 9 ?_;have lQ:=S6.drew;refine fq 11 10 lQ [] ?_;refine gk (v:= .pointer (some ⟨b1,1,none⟩)) 0 rfl lQ (λ_ _=>fu _ zl) ?_;refine gK ?_;refine gk (v:= .pointer (some ⟨b1,2,none⟩)) 3 rfl lQ (λ_ _=>fu _ zm) ?_;refine gK ?_;refine gk (v:= .pointer (some ⟨b1,3,none⟩)) 6 rfl lQ (λ_ _=>fu _ Gs) ?_;refine gK ?_;refine eH (m:=4) (r:=2) (by kernel_rfl) ?_;refine kQ (i:=2) rfl rfl (wn rfl) rfl rfl (iM (vs:=[iV a,iV 2]) rfl yE ⟨rfl,rfl,trivial⟩) (fH (m:=2) h2 (by decide) _) ?_;rintro _ Wv ⟨rfl,rfl⟩;refine ⟨_,rfl,?_⟩;refine gK ?_;refine eH (m:=3) (r:=5) (by kernel_rfl) ?_;refine kQ (i:=5) rfl rfl (wn rfl) rfl rfl (iM (vs:=[iV b,iV 24]) rfl yE ⟨rfl,rfl,trivial⟩) (fH (m:=24) h3 (by decide) _) ?_;rintro _ X9 ⟨rfl,rfl⟩;refine ⟨_,rfl,?_⟩;refine gK ?_;refine eH (m:=2) (r:=8) (by kernel_rfl) ?_;refine kQ (i:=8) rfl rfl (wn rfl) rfl rfl (iM (vs:=[iV c,iV 1000]) rfl yE ⟨rfl,rfl,trivial⟩) (fH (m:=1000) h4 (by decide) _) ?_;rintro _ w32 ⟨rfl,rfl⟩;refine ⟨_,rfl,?_⟩;refine gK ?_;refine gk (v:= .agg #[iV 1,iV (aW a 2),iV (aW b 24),iV (aW c 1000),iV 0,iV 0]) 9 rfl lQ (λ_ _=>fT) ?_;refine eG (by kernel_rfl) rfl rfl rfl ?_;refine sa 0 lQ iy ?_;intro YC rZ;refine zQ ?_;refine iK ?_;refine zN 5 ?_;rw [show mF k a b c=⟨1,(aW a 2),(aW b 24),(aW c 1000),0,0⟩ from by unfold mF;first | rw [if_pos (by omega)] | rw [if_neg (by omega),if_pos (by omega)] | rw [if_neg (by omega),if_neg (by omega),if_pos (by omega)] | rw [if_neg (by omega),if_neg (by omega),if_neg (by omega)]];exact ⟨rfl,rZ.low⟩
 refine zN 6 ?_;by_cases yc:(aW k 8)=2
 ·refine zN 6 ?_;have pK:=S6.drew;refine fq 11 10 pK [] ?_;refine gk (v:= .pointer (some ⟨b1,1,none⟩)) 0 rfl pK (λ_ _=>fu _ zl) ?_;refine gK ?_;refine gk (v:= .pointer (some ⟨b1,2,none⟩)) 3 rfl pK (λ_ _=>fu _ zm) ?_;refine gK ?_;refine gk (v:= .pointer (some ⟨b1,3,none⟩)) 6 rfl pK (λ_ _=>fu _ Gs) ?_;refine gK ?_;refine eH (m:=4) (r:=2) (by kernel_rfl) ?_;refine kQ (i:=2) rfl rfl (wn rfl) rfl rfl (iM (vs:=[iV a,iV 2]) rfl yE ⟨rfl,rfl,trivial⟩) (fH (m:=2) h2 (by decide) _) ?_;rintro _ NV ⟨rfl,rfl⟩;refine ⟨_,rfl,?_⟩;refine gK ?_;refine eH (m:=3) (r:=5) (by kernel_rfl) ?_;refine kQ (i:=5) rfl rfl (wn rfl) rfl rfl (iM (vs:=[iV b,iV 24]) rfl yE ⟨rfl,rfl,trivial⟩) (fH (m:=24) h3 (by decide) _) ?_;rintro _ w45 ⟨rfl,rfl⟩;refine ⟨_,rfl,?_⟩;refine gK ?_;refine eH (m:=2) (r:=8) (by kernel_rfl) ?_;refine kQ (i:=8) rfl rfl (wn rfl) rfl rfl (iM (vs:=[iV c,iV 1000]) rfl yE ⟨rfl,rfl,trivial⟩) (fH (m:=1000) h4 (by decide) _) ?_;rintro _ Wy ⟨rfl,rfl⟩;refine ⟨_,rfl,?_⟩;refine gK ?_;refine gk (v:= .agg #[iV 1,iV (aW a 2),iV (aW b 24),iV (aW c 1000),iV 0,iV 0]) 9 rfl pK (λ_ _=>fT) ?_;refine eG (by kernel_rfl) rfl rfl rfl ?_;refine sa 0 pK iy ?_;intro WH sK;refine zQ ?_;refine iK ?_;refine zN 5 ?_;rw [show mF k a b c=⟨1,(aW a 2),(aW b 24),(aW c 1000),0,0⟩ from by unfold mF;first | rw [if_pos (by omega)] | rw [if_neg (by omega),if_pos (by omega)] | rw [if_neg (by omega),if_neg (by omega),if_pos (by omega)] | rw [if_neg (by omega),if_neg (by omega),if_neg (by omega)]];exact ⟨rfl,sK.low⟩
 refine zN 8 ?_;by_cases h50:(aW k 8)=3
 ·refine zN 10 ?_;refine vv (v:= .agg #[iV 2,iV 0,iV 0,iV 0,iV 0,iV 0]) fT ?_;refine sa 0 S6 iy ?_;intro XY nT;refine zN 6 ?_;rw [show mF k a b c=⟨2,0,0,0,0,0⟩ from by unfold mF;first | rw [if_pos (by omega)] | rw [if_neg (by omega),if_pos (by omega)] | rw [if_neg (by omega),if_neg (by omega),if_pos (by omega)] | rw [if_neg (by omega),if_neg (by omega),if_neg (by omega)]];exact ⟨rfl,nT.low⟩
 refine zN 6 ?_;by_cases h53:(aW k 8)=4
 ·refine zN 7 ?_;refine vv (v:= .agg #[iV 2,iV 0,iV 0,iV 0,iV 0,iV 0]) fT ?_;refine sa 0 S6 iy ?_;intro w54 uK;refine zN 6 ?_;rw [show mF k a b c=⟨2,0,0,0,0,0⟩ from by unfold mF;first | rw [if_pos (by omega)] | rw [if_neg (by omega),if_pos (by omega)] | rw [if_neg (by omega),if_neg (by omega),if_pos (by omega)] | rw [if_neg (by omega),if_neg (by omega),if_neg (by omega)]];exact ⟨rfl,uK.low⟩
 refine zN 8 ?_;by_cases h56:(aW k 8)=5
 ·refine zN 9 ?_;have qh:=S6.drew;refine fq 9 8 qh [] ?_;refine gk (v:= .pointer (some ⟨b1,1,none⟩)) 0 rfl qh (λ_ _=>fu _ zl) ?_;refine gK ?_;refine gk (v:= .pointer (some ⟨b1,2,none⟩)) 3 rfl qh (λ_ _=>fu _ zm) ?_;refine gK ?_;refine eH (m:=4) (r:=2) (by kernel_rfl) ?_;refine kQ (i:=2) rfl rfl (wn rfl) rfl rfl (iM (vs:=[iV a,iV 3]) rfl yE ⟨rfl,rfl,trivial⟩) (fH (m:=3) h2 (by decide) _) ?_;rintro _ Ws ⟨rfl,rfl⟩;refine ⟨_,rfl,?_⟩;refine gK ?_;refine eH (m:=3) (r:=5) (by kernel_rfl) ?_;refine kQ (i:=5) rfl rfl (wn rfl) rfl rfl (iM (vs:=[iV b,iV 6]) rfl yE ⟨rfl,rfl,trivial⟩) (fH (m:=6) h3 (by decide) _) ?_;rintro _ w63 ⟨rfl,rfl⟩;refine ⟨_,rfl,?_⟩;refine gK ?_;refine gk (v:= .agg #[iV (aW a 3),iV (aW b 6)]) 6 rfl qh (λ_ _=>fT) ?_;refine gk (v:= .agg #[iV 3,iV 0,iV 0,iV 0,iV (aW a 3),iV (aW b 6)]) 7 rfl qh (λ_ _=>fT) ?_;refine eG (by kernel_rfl) rfl rfl rfl ?_;refine sa 0 qh iy ?_;intro R6 sI;refine zQ ?_;refine iK ?_;refine zN 5 ?_;rw [show mF k a b c=⟨3,0,0,0,(aW a 3),(aW b 6)⟩ from by unfold mF;first | rw [if_pos (by omega)] | rw [if_neg (by omega),if_pos (by omega)] | rw [if_neg (by omega),if_neg (by omega),if_pos (by omega)] | rw [if_neg (by omega),if_neg (by omega),if_neg (by omega)]];exact ⟨rfl,sI.low⟩
 refine zN 6 ?_;by_cases h68:(aW k 8)=6
 ·refine zN 6 ?_;have uw:=S6.drew;refine fq 9 8 uw [] ?_;refine gk (v:= .pointer (some ⟨b1,1,none⟩)) 0 rfl uw (λ_ _=>fu _ zl) ?_;refine gK ?_;refine gk (v:= .pointer (some ⟨b1,2,none⟩)) 3 rfl uw (λ_ _=>fu _ zm) ?_;refine gK ?_;refine eH (m:=4) (r:=2) (by kernel_rfl) ?_;refine kQ (i:=2) rfl rfl (wn rfl) rfl rfl (iM (vs:=[iV a,iV 3]) rfl yE ⟨rfl,rfl,trivial⟩) (fH (m:=3) h2 (by decide) _) ?_;rintro _ w74 ⟨rfl,rfl⟩;refine ⟨_,rfl,?_⟩;refine gK ?_;refine eH (m:=3) (r:=5) (by kernel_rfl) ?_;refine kQ (i:=5) rfl rfl (wn rfl) rfl rfl (iM (vs:=[iV b,iV 6]) rfl yE ⟨rfl,rfl,trivial⟩) (fH (m:=6) h3 (by decide) _) ?_;rintro _ w75 ⟨rfl,rfl⟩;refine ⟨_,rfl,?_⟩;refine gK ?_;refine gk (v:= .agg #[iV (aW a 3),iV (aW b 6)]) 6 rfl uw (λ_ _=>fT) ?_;refine gk (v:= .agg #[iV 3,iV 0,iV 0,iV 0,iV (aW a 3),iV (aW b 6)]) 7 rfl uw (λ_ _=>fT) ?_;refine eG (by kernel_rfl) rfl rfl rfl ?_;refine sa 0 uw iy ?_;intro w78 Bw;refine zQ ?_;refine iK ?_;refine zN 5 ?_;rw [show mF k a b c=⟨3,0,0,0,(aW a 3),(aW b 6)⟩ from by unfold mF;first | rw [if_pos (by omega)] | rw [if_neg (by omega),if_pos (by omega)] | rw [if_neg (by omega),if_neg (by omega),if_pos (by omega)] | rw [if_neg (by omega),if_neg (by omega),if_neg (by omega)]];exact ⟨rfl,Bw.low⟩
 refine zN 10 ?_;refine vv (v:= .agg #[iV 4,iV 0,iV 0,iV 0,iV 0,iV 0]) fT ?_;refine sa 0 S6 iy ?_;intro w80 tK;refine zN 4 ?_;rw [show mF k a b c=⟨4,0,0,0,0,0⟩ from by unfold mF;first | rw [if_pos (by omega)] | rw [if_neg (by omega),if_pos (by omega)] | rw [if_neg (by omega),if_neg (by omega),if_pos (by omega)] | rw [if_neg (by omega),if_neg (by omega),if_neg (by omega)]];exact ⟨rfl,tK.low⟩
theorem RD {k a b c:Int} (h1:JI k) (h2:JI a) (h3:JI b) (h4:JI c) (w:World):
    Calls Tryz.prog 35 #[.agg #[iV k,iV a,iV b,iV c]] w (λe w'=>e= .returned (.agg (Ev.cells (mF k a b c)).toArray)/\Below w.heap.size w w'):=by
 have S:=St.start w;refine gy 5 Tryz.func35 ?_;refine cw [0] ?_;refine zN 2 ?_;refine iC S ?_;intro b1 w2 S3;refine fO S3 XL ?_;intro b4 w5 S6;refine zQ ?_;refine Gb (vv (ah rfl rfl (nW 1 S6 rfl Tryz.underlying101 rfl abb rfl)) ?_);refine cab av0 S6 (Rz h1 h2 h3 h4 _) ?_;intro w7 S8;refine sa 0 S8 iy ?_;intro Yh qI;refine zN 4 ?_;exact ⟨rfl,qI.low⟩
theorem aag {g:Gr} (h:g.ok) (cr:Bool) (w:World):
    Calls Tryz.prog 22 #[.agg #[iV g.kd,iV g.a,iV g.b,iV g.c,iV g.d],.bool cr] w (λe w'=>e= .returned (.agg (Ac.cells (gW g cr)).toArray)/\Below w.heap.size w w'):=by
 have S:=St.start w;refine gy 91 Tryz.func22 ?_;refine cw [0,1] ?_;refine zN 2 ?_;refine iC S ?_;intro b1 w2 S3;refine fO S3 XM ?_;intro b4 w5 S6;refine zQ ?_;refine Gb (vv (fu 1 M4) ?_);refine zQ ?_;refine dN OI (lG (m:=3) h.2.1 (by decide) _) ?_;rintro _ w7 ⟨rfl,rfl⟩;refine ⟨_,rfl,?_⟩;refine zN 2 ?_;refine Gb (vv (fu 2 VX) ?_);refine zQ ?_;refine dN OI (lG (m:=2) h.2.2.1 (by decide) _) ?_;rintro _ w8 ⟨rfl,rfl⟩;refine ⟨_,rfl,?_⟩;refine zN 2 ?_;refine yw (vv (fu 0 VW) ?_);refine zQ ?_;refine dN OI (lG (m:=24) h.1 (by decide) _) ?_;rintro _ w9 ⟨rfl,rfl⟩;refine ⟨_,rfl,?_⟩;refine zN 7 ?_;by_cases h10:(aW g.kd 24)<7
 ·refine zN 3 ?_;refine AJ (vv (fu 3 zk) ?_);refine zQ ?_;refine vv (fu 1 M4) ?_;refine zQ ?_;refine vv (fu 4 M5) ?_;refine zQ ?_;refine vv (fu 4 M5) ?_;refine zQ ?_;refine vv (v:= .agg #[iV g.c,iV g.a,iV g.d,iV g.d]) fT ?_;refine cab avN S6 (RD h.2.2.2.1 h.2.1 h.2.2.2.2 h.2.2.2.2 _) ?_;intro FM lN;refine fO lN XL ?_;intro b14 Jt lV;refine sa 0 lV iy ?_;intro Kz iQ;refine zN 7 ?_;by_cases h19:(mF g.c g.a g.d g.d).kind=4
  ·refine zN 6 ?_;refine FI 0 iQ mU ?_;intro WG r9;refine zN 7 ?_;refine vv (v:= .agg #[iV 2,iV (aW g.a 3),iV (aW g.b 2),iV 0,iV 0,iV 2,iV ((mF g.c g.a g.d g.d).producer),iV ((mF g.c g.a g.d g.d).id),iV ((mF g.c g.a g.d g.d).body),iV ((mF g.c g.a g.d g.d).aQ),iV ((mF g.c g.a g.d g.d).hno)]) fT ?_;refine sa 1 r9 jH ?_;intro YD lQ;refine zN 6 ?_;rw [show gW g cr=⟨2,(aW g.a 3),(aW g.b 2),0,0,2,(mF g.c g.a g.d g.d).producer,(mF g.c g.a g.d g.d).id,(mF g.c g.a g.d g.d).body,(mF g.c g.a g.d g.d).aQ,(mF g.c g.a g.d g.d).hno⟩ from by unfold gW;rw [if_pos (by omega),T9,if_pos (by assumption)]];exact ⟨rfl,lQ.low⟩
  refine zN 11 ?_;refine vv (v:= .agg #[iV 2,iV (aW g.a 3),iV (aW g.b 2),iV 0,iV 0,iV ((mF g.c g.a g.d g.d).kind),iV ((mF g.c g.a g.d g.d).producer),iV ((mF g.c g.a g.d g.d).id),iV ((mF g.c g.a g.d g.d).body),iV ((mF g.c g.a g.d g.d).aQ),iV ((mF g.c g.a g.d g.d).hno)]) fT ?_;refine sa 1 iQ jH ?_;intro LM jm;refine zN 6 ?_;rw [show gW g cr=⟨2,(aW g.a 3),(aW g.b 2),0,0,(mF g.c g.a g.d g.d).kind,(mF g.c g.a g.d g.d).producer,(mF g.c g.a g.d g.d).id,(mF g.c g.a g.d g.d).body,(mF g.c g.a g.d g.d).aQ,(mF g.c g.a g.d g.d).hno⟩ from by unfold gW;rw [if_pos (by omega),T9,if_neg (by assumption)]];exact ⟨rfl,jm.low⟩
 refine zN 8 ?_;by_cases h26:(aW g.kd 24)<13
 ·refine zN 8 ?_;refine vv (v:= .agg #[iV 3,iV (aW g.a 3),iV 0,iV 0,iV 0,iV 0,iV 0,iV 0,iV 0,iV 0,iV 0]) fT ?_;refine sa 0 S6 jH ?_;intro KA qJ;refine zN 6 ?_;rw [show gW g cr=⟨3,(aW g.a 3),0,0,0,0,0,0,0,0,0⟩ from by unfold gW;rw [if_neg (by omega),if_pos (by omega)]];exact ⟨rfl,qJ.low⟩
 refine zN 8 ?_;by_cases h29:(aW g.kd 24)=13
 ·refine zN 3 ?_;refine AJ (vv (fu 3 zk) ?_);refine zQ ?_;refine dN OI (lG (m:=20) h.2.2.2.1 (by decide) _) ?_;rintro _ Wv ⟨rfl,rfl⟩;refine ⟨_,rfl,?_⟩;refine vv (v:= .agg #[iV 4,iV 0,iV 0,iV (aW g.c 20),iV 0,iV 0,iV 0,iV 0,iV 0,iV 0,iV 0]) fT ?_;refine sa 0 S6 jH ?_;intro X9 qj;refine zN 6 ?_;rw [show gW g cr=⟨4,0,0,(aW g.c 20),0,0,0,0,0,0,0⟩ from by unfold gW;rw [if_neg (by omega),if_neg (by omega),if_pos (by omega)]];exact ⟨rfl,qj.low⟩
 refine zN 8 ?_;by_cases h33:(aW g.kd 24)=14
 ·refine zN 3 ?_;refine AJ (vv (fu 3 zk) ?_);refine zQ ?_;refine dN OI (lG (m:=20) h.2.2.2.1 (by decide) _) ?_;rintro _ YC ⟨rfl,rfl⟩;refine ⟨_,rfl,?_⟩;refine vv (v:= .agg #[iV 5,iV 0,iV 0,iV (aW g.c 20),iV 0,iV 0,iV 0,iV 0,iV 0,iV 0,iV 0]) fT ?_;refine sa 0 S6 jH ?_;intro RZ kF;refine zN 6 ?_;rw [show gW g cr=⟨5,0,0,(aW g.c 20),0,0,0,0,0,0,0⟩ from by unfold gW;rw [if_neg (by omega),if_neg (by omega),if_neg (by omega),if_pos (by omega)]];exact ⟨rfl,kF.low⟩
 refine zN 8 ?_;by_cases h37:(aW g.kd 24)=15
 ·refine zN 3 ?_;refine AJ (vv (fu 3 zk) ?_);refine zQ ?_;refine dN OI (lG (m:=20) h.2.2.2.1 (by decide) _) ?_;rintro _ Yo ⟨rfl,rfl⟩;refine ⟨_,rfl,?_⟩;refine vv (v:= .agg #[iV 6,iV 0,iV 0,iV (aW g.c 20),iV 0,iV 0,iV 0,iV 0,iV 0,iV 0,iV 0]) fT ?_;refine sa 0 S6 jH ?_;intro w39 u7;refine zN 6 ?_;rw [show gW g cr=⟨6,0,0,(aW g.c 20),0,0,0,0,0,0,0⟩ from by unfold gW;rw [if_neg (by omega),if_neg (by omega),if_neg (by omega),if_neg (by omega),if_pos (by omega)]];exact ⟨rfl,u7.low⟩
 refine zN 8 ?_;by_cases h41:(aW g.kd 24)=16
 ·refine zN 9 ?_;refine vv (v:= .agg #[iV 10,iV (aW g.a 3),iV (aW g.b 2),iV 0,iV 0,iV 0,iV 0,iV 0,iV 0,iV 0,iV 0]) fT ?_;refine sa 0 S6 jH ?_;intro R4 rX;refine zN 6 ?_;rw [show gW g cr=⟨10,(aW g.a 3),(aW g.b 2),0,0,0,0,0,0,0,0⟩ from by unfold gW;rw [if_neg (by omega),if_neg (by omega),if_neg (by omega),if_neg (by omega),if_neg (by omega),if_pos (by omega)]];exact ⟨rfl,rX.low⟩
 refine zN 6 ?_;have hp:=oM (n:=g.kd) (m:=24) (by decide)
 cases cr with
 | false=>
  refine zN 2 ?_;by_cases h44:(aW g.kd 24)=17
  ·refine zN 24 ?_;refine vv (v:= .agg #[iV 7,iV 0,iV 0,iV 0,iV 0,iV 0,iV 0,iV 0,iV 0,iV 0,iV 0]) fT ?_;refine sa 0 S6 jH ?_;intro w45 qL;refine zN 4 ?_;rw [show gW g false=⟨7,0,0,0,0,0,0,0,0,0,0⟩ from by unfold gW;rw [if_neg (by omega),if_neg (by omega),if_neg (by omega),if_neg (by omega),if_neg (by omega),if_neg (by omega),if_neg (λh=>by have:=h.2;cases this),if_neg (λh=>by have:=h.2;cases this)]];exact ⟨rfl,qL.low⟩
  refine zN 11 ?_;by_cases h47:(aW g.kd 24)=18
  ·refine zN 13 ?_;refine vv (v:= .agg #[iV 7,iV 0,iV 0,iV 0,iV 0,iV 0,iV 0,iV 0,iV 0,iV 0,iV 0]) fT ?_;refine sa 0 S6 jH ?_;intro WH sK;refine zN 4 ?_;rw [show gW g false=⟨7,0,0,0,0,0,0,0,0,0,0⟩ from by unfold gW;rw [if_neg (by omega),if_neg (by omega),if_neg (by omega),if_neg (by omega),if_neg (by omega),if_neg (by omega),if_neg (λh=>by have:=h.2;cases this),if_neg (λh=>by have:=h.2;cases this)]];exact ⟨rfl,sK.low⟩
  refine zN 13 ?_;refine vv (v:= .agg #[iV 7,iV 0,iV 0,iV 0,iV 0,iV 0,iV 0,iV 0,iV 0,iV 0,iV 0]) fT ?_;refine sa 0 S6 jH ?_;intro R7 uq;refine zN 4 ?_;rw [show gW g false=⟨7,0,0,0,0,0,0,0,0,0,0⟩ from by unfold gW;rw [if_neg (by omega),if_neg (by omega),if_neg (by omega),if_neg (by omega),if_neg (by omega),if_neg (by omega),if_neg (λh=>by have:=h.2;cases this),if_neg (λh=>by have:=h.2;cases this)]];exact ⟨rfl,uq.low⟩
 | true=>
  refine zN 2 ?_;by_cases h52:(aW g.kd 24)=17
  ·refine zN 11 ?_;refine vv (fu 3 zk) ?_;refine zQ ?_;refine dN OI (lG (m:=120) h.2.2.2.1 (by decide) _) ?_;rintro _ w53 ⟨rfl,rfl⟩;refine ⟨_,rfl,?_⟩;refine vv (v:= .agg #[iV 8,iV (aW g.a 3),iV 0,iV 0,iV (aW g.c 120),iV 0,iV 0,iV 0,iV 0,iV 0,iV 0]) fT ?_;refine sa 0 S6 jH ?_;intro w54 uK;refine zN 6 ?_;rw [show gW g true=⟨8,(aW g.a 3),0,0,(aW g.c 120),0,0,0,0,0,0⟩ from by unfold gW;rw [if_neg (by omega),if_neg (by omega),if_neg (by omega),if_neg (by omega),if_neg (by omega),if_neg (by omega),if_pos ⟨by omega,rfl⟩]];exact ⟨rfl,uK.low⟩
  refine zN 11 ?_;by_cases h56:(aW g.kd 24)=18
  ·refine zN 11 ?_;refine vv (v:= .agg #[iV 9,iV (aW g.a 3),iV 0,iV 0,iV 0,iV 0,iV 0,iV 0,iV 0,iV 0,iV 0]) fT ?_;refine sa 0 S6 jH ?_;intro w57 Bz;refine zN 6 ?_;rw [show gW g true=⟨9,(aW g.a 3),0,0,0,0,0,0,0,0,0⟩ from by unfold gW;rw [if_neg (by omega),if_neg (by omega),if_neg (by omega),if_neg (by omega),if_neg (by omega),if_neg (by omega),if_neg (λh=>by have:=h.1;omega),if_pos ⟨by omega,rfl⟩]];exact ⟨rfl,Bz.low⟩
  refine zN 13 ?_;refine vv (v:= .agg #[iV 7,iV 0,iV 0,iV 0,iV 0,iV 0,iV 0,iV 0,iV 0,iV 0,iV 0]) fT ?_;refine sa 0 S6 jH ?_;intro w59 R8;refine zN 4 ?_;rw [show gW g true=⟨7,0,0,0,0,0,0,0,0,0,0⟩ from by unfold gW;rw [if_neg (by omega),if_neg (by omega),if_neg (by omega),if_neg (by omega),if_neg (by omega),if_neg (by omega),if_neg (λh=>by have:=h.1;omega),if_neg (λh=>by have:=h.1;omega)]];exact ⟨rfl,R8.low⟩
theorem anM (x:Ac): ∀ u∈x.cells,u.oneCell'=true:=bL rfl
theorem adW (l:List Ac): ∀ u∈l.flatMap Ac.cells,u.oneCell'=true:=by
 intro u hu;rw [List.mem_flatMap] at hu;obtain ⟨z,_,hz⟩:=hu;exact anM z u hz
def acK (k n:Int):Ac:=⟨k,n,0,0,0,0,0,0,0,0,0⟩
def mks:List Ac:=[⟨1,0,0,0,0,0,0,0,0,0,0⟩,⟨1,1,1,0,0,0,0,0,0,0,0⟩]
def eU (gs:List Gr) (m:Nat) (cr:Bool):List Ac:=mks++(gs.take m).map (gW · cr)
theorem RF {gs:List Gr} {k:Nat} {g:Gr} {cr:Bool} (h:gs[k]? =some g):eU gs (k+1) cr=eU gs k cr++[gW g cr]:=by
 unfold eU;rw [List.take_add_one,h];simp
theorem JJ {gs:List Gr} {k m:Nat} {cr:Bool} (h1:k<=gs.length) (h2:k<=m) (h3:k=gs.length\/k=m):eU gs k cr=eU gs m cr:=by
 rcases h3 with rfl | rfl
 ·unfold eU;rw [List.take_of_length_le (Nat.le_refl _),List.take_of_length_le h2]
 rfl
theorem JK {gs:List Gr} {k:Nat} {cr:Bool} (h:k<=gs.length):(eU gs k cr).length=2+k:=by
 unfold eU mks;simp;omega
def starts (k:Nat):List Ac:=(List.range k).map λ(n:Nat)=>acK 9 (n:Int)
def steps (k:Nat):List Ac:=(List.range k).map λ(n:Nat)=>acK 3 (n:Int)
def xL:Nat->List Ac
 | 0=>[]
 | i+1=>xL i++steps 5++[acK 7 0]
theorem RG (k:Nat):starts (k+1)=starts k++[acK 9 (k:Int)]:=by unfold starts;rw [List.range_succ,List.map_append];rfl
theorem Vu (k:Nat):steps (k+1)=steps k++[acK 3 (k:Int)]:=by unfold steps;rw [List.range_succ,List.map_append];rfl
theorem Fb (i:Nat):xL (i+1)=xL i++steps 5++[acK 7 0]:=rfl
theorem Qr: ∀ i,(xL i).length=6*i
 | 0=>rfl
 | i+1=>by rw [xL,List.length_append,List.length_append,Qr i];simp [steps];omega
def oI (l:List Ac) (r:Nat):List Ac:=l++starts 5++xL r
theorem Qs {l:List Ac} {r:Nat}:(oI l r).length=l.length+5+6*r:=by
 unfold oI;rw [List.length_append,List.length_append,Qr];simp [starts]
theorem OD {gs:List Gr} {A:Option Addr} {c m:Nat} {cr:Bool} (hm:m<=1000) (hg: ∀ g∈gs,g.ok) (w:World) (h:Rd w w.heap.size 5 A gs.length (gs.flatMap Gr.cells)):
    Calls Tryz.prog 11 #[.slice A gs.length c,iV ((m:Nat):Int),.bool cr] w (λe w'=> ∃ A' c',e= .returned (.slice A' ((eU gs m cr).length) c')/\St w.heap.size w w' [.own 69 11 (.slice A' ((eU gs m cr).length) c') ((eU gs m cr).length) ((eU gs m cr).flatMap Ac.cells)]):=by
 have S:=(St.start w).bZ h;refine gy 35 Tryz.func11 ?_;refine cw [0,1,2] ?_;refine zN 7 ?_;refine vv (v:= .agg #[iV 1,iV 0,iV 0,iV 0,iV 0,iV 0,iV 0,iV 0,iV 0,iV 0,iV 0]) fT ?_;refine vv (v:= .agg #[iV 1,iV 1,iV 1,iV 0,iV 0,iV 0,iV 0,iV 0,iV 0,iV 0,iV 0]) fT ?_;refine qb (V:=λb=> .slice (some ⟨b,0,none⟩) 2 2) (row:=(mks.flatMap Ac.cells).toArray) (t:=69) (n:=2) (s:=11) (xs:=mks.flatMap Ac.cells) S (wn rfl) rfl rfl (aV (vs:=[(0,.agg #[iV 1,iV 0,iV 0,iV 0,iV 0,iV 0,iV 0,iV 0,iV 0,iV 0,iV 0]),(1,.agg #[iV 1,iV 1,iV 1,iV 0,iV 0,iV 0,iV 0,iV 0,iV 0,iV 0,iV 0])]) rfl ⟨rfl,rfl,rfl,rfl,trivial⟩ (by kernel_rfl)) rfl (by decide) rfl ?_;intro b1 w2 S3;refine zN 10 ?_;refine eD (X:=Nat×(Option Addr)×Nat) (λxv=>[(0,.slice A gs.length c),(1,iV ((m:Nat):Int)),(2,.bool cr),(6,.slice none 0 0),(7,.slice xv.2.1 (2+xv.1) xv.2.2),(8,iV ((xv.1:Nat):Int))]) (λxv wr=>(xv.1<=gs.length)/\(xv.1<=m)/\St w.heap.size w wr [.own 69 11 (.slice xv.2.1 (2+xv.1) xv.2.2) (2+xv.1) ((eU gs xv.1 cr).flatMap Ac.cells),.rd 5 A gs.length ((gs).flatMap Gr.cells)]) (λxv=>gs.length-xv.1) (0,(some ⟨b1,0,none⟩),2) ?_ ?_ ?_
 ·exact ⟨Nat.zero_le _,Nat.zero_le _,S3⟩
 ·exact ⟨rfl,rfl,rfl,rfl,rfl,rfl,trivial⟩
 rintro ⟨k,Ab,cb⟩ w4 ⟨E8,JF,S5⟩
 try dsimp only at E8 JF S5
 refine bn (l':=[(0,.slice A gs.length c),(1,iV ((m:Nat):Int)),(2,.bool cr),(6,.slice none 0 0),(7,.slice Ab (2+k) cb),(8,iV ((k:Nat):Int))]) ⟨rfl,rfl,rfl,rfl,rfl,rfl,trivial⟩ (aH (aH (aB (vm ?_))));refine zQ ?_;refine vv (v:=iV ((gs.length:Nat):Int)) (jQ (vs:=[.slice A gs.length c]) rfl ⟨rfl,trivial⟩ λ_=>F6 rfl Tryz.underlying22) ?_;by_cases h8:((k:Nat):Int)< ((gs.length:Nat):Int)
 ·refine zN 4 ?_;by_cases h9:((k:Nat):Int)< ((m:Nat):Int)
  ·refine zN 13 ?_;obtain ⟨b10,o11,rfl⟩:=Rd.addr (St.rd 1 S5 rfl) (by omega);obtain ⟨AX,akZ⟩:=Ho k (St.rd 1 S5 rfl) (by omega);refine vv (v:= .pointer (some ⟨b10,o11+k*5,none⟩)) (aO rfl rfl rfl (zI k Tryz.underlying22 RU (by omega) (by omega))) ?_;refine vv (ah rfl rfl (aA (cs:=Gr.cells AX) Tryz.underlying84 rfl RU rfl (Rd.uY (St.rd 1 S5 rfl) (λ_ _ h=>bC (enc:=Gr.cells) (sz:=5) (λ_=>rfl) akZ h)))) ?_;refine zQ ?_;refine cab avD S5 (aag (hg _ (List.mem_of_getElem? akZ)) cr _) ?_;intro HY gZ;refine fO gZ XM ?_;intro b17 Ht kM;refine sa 0 kM jH ?_;intro WG r9;refine zN 5 ?_;refine NS r9 ?_;intro PK Jp jy;refine dI (news:=[iV ((gW AX cr).kd),iV ((gW AX cr).nd),iV ((gW AX cr).qu),iV ((gW AX cr).at_),iV ((gW AX cr).kp),iV ((gW AX cr).ek),iV ((gW AX cr).ep),iV ((gW AX cr).ei),iV ((gW AX cr).eb),iV ((gW AX cr).eh),iV ((gW AX cr).en)]) (xs':=(eU gs (k+1) cr).flatMap Ac.cells) 2 jy (wn rfl) rfl rfl rfl rfl rfl rfl (St.lC (xs:=[iV ((gW AX cr).kd),iV ((gW AX cr).nd),iV ((gW AX cr).qu),iV ((gW AX cr).at_),iV ((gW AX cr).kp),iV ((gW AX cr).ek),iV ((gW AX cr).ep),iV ((gW AX cr).ei),iV ((gW AX cr).eb),iV ((gW AX cr).eh),iV ((gW AX cr).en)]) 0 jy rfl rfl rfl) Tryz.underlying23 DC rfl (by decide) (bL rfl) (by simp only [maxLen];omega) (by omega) (iO (enc:=Ac.cells) (RF akZ).symm rfl) ?_;intro A25 c26 KA hc29 axP qJ;refine zN 6 ?_;refine vv (v:=iV ((k+1:Nat):Int)) jg ?_;refine zN 2 ?_;have ni:=qJ.aT [1,0];refine aU (k+1,A25,c26) ?_ ⟨rfl,rfl,rfl,rfl,rfl,rfl,trivial⟩ (by first | omega | (dsimp only;omega));exact ⟨(by dsimp only;omega),(by dsimp only;omega),ni⟩
  refine zN 18 ?_;have qj:=S5.aT [1];rw [show eU gs m cr=eU gs k cr from (JJ (by omega) (by omega) (by omega)).symm,JK (by omega)];exact ⟨Ab,cb,rfl,qj⟩
 refine zN 22 ?_;have qK:=S5.aT [1];rw [show eU gs m cr=eU gs k cr from (JJ (by omega) (by omega) (by omega)).symm,JK (by omega)];exact ⟨Ab,cb,rfl,qK⟩
theorem Vv {l:List Ac} {A:Option Addr} {c r:Nat} (hr:r<=100000) (hl:l.length<=100000) (w:World) (h:Rd w w.heap.size 11 A l.length (l.flatMap Ac.cells)):
    Calls Tryz.prog 13 #[.slice A l.length c,iV ((r:Nat):Int)] w (λe w'=> ∃ A' c',e= .returned (.slice A' ((oI l r).length) c')/\St w.heap.size w w' [.own 69 11 (.slice A' ((oI l r).length) c') ((oI l r).length) ((oI l r).flatMap Ac.cells)]):=by
 have S:=(St.start w).bZ h;refine gy 39 Tryz.func13 ?_;refine cw [0,1] ?_;refine zN 6 ?_;have S1:=S.nil 69 11;refine zN 2 ?_;refine dI (news:=(l).flatMap Ac.cells) (xs':=(l).flatMap Ac.cells) 0 S1 (wn rfl) rfl rfl rfl rfl rfl rfl (St.rd 1 S1 rfl) Tryz.underlying23 DC rfl (by decide) (adW _) (by simp only [maxLen];omega) (by omega) (by simp) ?_;intro A2 c3 w4 hc6 WQ S5;refine zN 10 ?_;refine eD (X:=Nat×Nat×(Option Addr)×Nat) (λxv=>[(1,iV ((r:Nat):Int)),(4,.slice none 0 0),(5,.slice xv.2.2.1 xv.2.1 xv.2.2.2),(6,iV ((xv.1:Nat):Int))]) (λxv wr=>(xv.1<=5)/\(xv.2.1=l.length+xv.1)/\St w.heap.size w wr [.own 69 11 (.slice xv.2.2.1 xv.2.1 xv.2.2.2) xv.2.1 ((l++starts xv.1).flatMap Ac.cells),.rd 11 A l.length ((l).flatMap Ac.cells)]) (λxv=>5-xv.1) (0,0+l.length,A2,c3) ?_ ?_ ?_
 ·exact ⟨Nat.zero_le _,by dsimp only;omega,by dsimp only;rw [show l++starts 0=l from List.append_nil l];exact S5⟩
 ·exact ⟨rfl,rfl,rfl,rfl,trivial⟩
 rintro ⟨k,nb,Ab,cb⟩ w8 ⟨lU,J5,S9⟩
 try dsimp only at lU J5 S9
 refine bn (l':=[(1,iV ((r:Nat):Int)),(4,.slice none 0 0),(5,.slice Ab nb cb),(6,iV ((k:Nat):Int))]) ⟨rfl,rfl,rfl,rfl,trivial⟩ (aH (aH (aB (vm ?_))));by_cases h12:((k:Nat):Int)<5
 ·refine zN 11 ?_;refine vv (v:= .agg #[iV 9,iV ((k:Nat):Int),iV 0,iV 0,iV 0,iV 0,iV 0,iV 0,iV 0,iV 0,iV 0]) fT ?_;refine NS S9 ?_;intro b13 HY gZ;refine dI (news:=[iV 9,iV ((k:Nat):Int),iV 0,iV 0,iV 0,iV 0,iV 0,iV 0,iV 0,iV 0,iV 0]) (xs':=(l++starts (k+1)).flatMap Ac.cells) 1 gZ (wn rfl) rfl rfl rfl rfl rfl rfl (St.lC (xs:=[iV 9,iV ((k:Nat):Int),iV 0,iV 0,iV 0,iV 0,iV 0,iV 0,iV 0,iV 0,iV 0]) 0 gZ rfl rfl rfl) Tryz.underlying23 DC rfl (by decide) (bL rfl) (by simp only [maxLen];omega) (by omega) (iO (enc:=Ac.cells) (by rw [RG,List.append_assoc]) rfl) ?_;intro A16 c17 Ht ajY ajZ kM;refine zN 6 ?_;refine vv (v:=iV ((k+1:Nat):Int)) jg ?_;refine zN 2 ?_;have iI:=kM.aT [0];refine aU (k+1,nb+1,A16,c17) ?_ ⟨rfl,rfl,rfl,rfl,trivial⟩ (by first | omega | (dsimp only;omega));exact ⟨(by dsimp only;omega),(by dsimp only;omega),iI⟩
 refine zN 16 ?_;obtain rfl:k=5:=by omega
 refine eD (X:=Nat×Nat×(Option Addr)×Nat) (λxv=>[(1,iV ((r:Nat):Int)),(4,.slice none 0 0),(5,.slice xv.2.2.1 xv.2.1 xv.2.2.2),(7,iV ((xv.1:Nat):Int))]) (λxv wr=>(xv.1<=r)/\(xv.2.1=l.length+5+6*xv.1)/\St w.heap.size w wr [.own 69 11 (.slice xv.2.2.1 xv.2.1 xv.2.2.2) xv.2.1 ((l++starts 5++xL xv.1).flatMap Ac.cells),.rd 11 A l.length ((l).flatMap Ac.cells)]) (λxv=>r-xv.1) (0,nb,Ab,cb) ?_ ?_ ?_
 ·exact ⟨Nat.zero_le _,by dsimp only;omega,by dsimp only;rw [show l++starts 5++xL 0=l++starts 5 from List.append_nil _];exact S9⟩
 ·exact ⟨rfl,rfl,rfl,rfl,trivial⟩
 rintro ⟨i,nb,Ab,cb⟩ Jp ⟨aAU,aAV,jy⟩
 try dsimp only at aAU aAV jy
 refine bn (l':=[(1,iV ((r:Nat):Int)),(4,.slice none 0 0),(5,.slice Ab nb cb),(7,iV ((i:Nat):Int))]) ⟨rfl,rfl,rfl,rfl,trivial⟩ (aH (aH (aB (vm ?_))));refine zQ ?_;by_cases h27:((i:Nat):Int)< ((r:Nat):Int)
 ·refine zN 15 ?_;refine eD (X:=Nat×Nat×(Option Addr)×Nat) (λxv=>[(1,iV ((r:Nat):Int)),(4,.slice none 0 0),(7,iV ((i:Nat):Int)),(5,.slice xv.2.2.1 xv.2.1 xv.2.2.2),(8,iV ((xv.1:Nat):Int))]) (λxv wr=>(xv.1<=5)/\(xv.2.1=l.length+5+6*i+xv.1)/\St w.heap.size w wr [.own 69 11 (.slice xv.2.2.1 xv.2.1 xv.2.2.2) xv.2.1 ((l++starts 5++xL i++steps xv.1).flatMap Ac.cells),.rd 11 A l.length ((l).flatMap Ac.cells)]) (λxv=>5-xv.1) (0,nb,Ab,cb) ?_ ?_ ?_
  ·exact ⟨Nat.zero_le _,by dsimp only;omega,by dsimp only;rw [show l++starts 5++xL i++steps 0=l++starts 5++xL i from List.append_nil _];exact jy⟩
  ·exact ⟨rfl,rfl,rfl,rfl,rfl,trivial⟩
  rintro ⟨j,nb,Ab,cb⟩ RY ⟨ak0,aac,nH⟩
  try dsimp only at ak0 aac nH
  refine bn (l':=[(1,iV ((r:Nat):Int)),(4,.slice none 0 0),(7,iV ((i:Nat):Int)),(5,.slice Ab nb cb),(8,iV ((j:Nat):Int))]) ⟨rfl,rfl,rfl,rfl,rfl,trivial⟩ (aH (aH (aB (vm ?_))));by_cases h32:((j:Nat):Int)<5
  ·refine zN 11 ?_;refine vv (v:= .agg #[iV 3,iV ((j:Nat):Int),iV 0,iV 0,iV 0,iV 0,iV 0,iV 0,iV 0,iV 0,iV 0]) fT ?_;refine NS nH ?_;intro b33 YC rZ;refine dI (news:=[iV 3,iV ((j:Nat):Int),iV 0,iV 0,iV 0,iV 0,iV 0,iV 0,iV 0,iV 0,iV 0]) (xs':=(l++starts 5++xL i++steps (j+1)).flatMap Ac.cells) 1 rZ (wn rfl) rfl rfl rfl rfl rfl rfl (St.lC (xs:=[iV 3,iV ((j:Nat):Int),iV 0,iV 0,iV 0,iV 0,iV 0,iV 0,iV 0,iV 0,iV 0]) 0 rZ rfl rfl rfl) Tryz.underlying23 DC rfl (by decide) (bL rfl) (by simp only [maxLen];omega) (by omega) (iO (enc:=Ac.cells) (by rw [Vu,List.append_assoc]) rfl) ?_;intro A36 c37 Yo axQ axR zT;refine zN 6 ?_;refine vv (v:=iV ((j+1:Nat):Int)) jg ?_;refine zN 2 ?_;have uL:=zT.aT [0];refine aU (j+1,nb+1,A36,c37) ?_ ⟨rfl,rfl,rfl,rfl,rfl,trivial⟩ (by first | omega | (dsimp only;omega));exact ⟨(by dsimp only;omega),(by dsimp only;omega),uL⟩
  refine zN 9 ?_;obtain rfl:j=5:=by omega
  refine zN 2 ?_;refine vv (v:= .agg #[iV 7,iV 0,iV 0,iV 0,iV 0,iV 0,iV 0,iV 0,iV 0,iV 0,iV 0]) fT ?_;refine NS nH ?_;intro b43 NV nI;refine dI (news:=[iV 7,iV 0,iV 0,iV 0,iV 0,iV 0,iV 0,iV 0,iV 0,iV 0,iV 0]) (xs':=(l++starts 5++xL (i+1)).flatMap Ac.cells) 1 nI (wn rfl) rfl rfl rfl rfl rfl rfl (St.lC (xs:=[iV 7,iV 0,iV 0,iV 0,iV 0,iV 0,iV 0,iV 0,iV 0,iV 0,iV 0]) 0 nI rfl rfl rfl) Tryz.underlying23 DC rfl (by decide) (bL rfl) (by simp only [maxLen];omega) (by omega) (iO (enc:=Ac.cells) (x:=acK 7 0) (by rw [Fb];simp only [List.append_assoc]) rfl) ?_;intro A46 c47 WH aHS aHT sK;refine zN 6 ?_;refine vv (v:=iV ((i+1:Nat):Int)) jg ?_;refine zN 2 ?_;have nT:=sK.aT [0];refine aU (i+1,nb+1,A46,c47) ?_ ⟨rfl,rfl,rfl,rfl,trivial⟩ (by first | omega | (dsimp only;omega));exact ⟨(by dsimp only;omega),(by dsimp only;omega),nT⟩
 refine zN 17 ?_;have wo:=jy.aT [1];obtain rfl:i=r:=by omega
 rw [Qs,show l.length+5+6*i=nb by omega];exact ⟨Ab,cb,rfl,wo⟩
open yt
theorem Xc {α β:Type} {R:α->β->Prop} {r:β}: ∀ {l:List α} {m j:Nat} {u:α},eu R l (List.replicate m r)->l[j]? =some u->R u r
 | _::_,_+1,0,_,h,hj=>by cases hj;exact h.1
 | _::l,m+1,j+1,_,h,hj=>Xc (l:=l) (m:=m) h.2 hj
 | [],_,_,_,_,hj=>by simp at hj
theorem wf_i64 {x:Int} (h:(Lit.int .i64 x).wf=true):JI x:=by
 have h1:IntKind.i64.min= -9223372036854775808:=by decide
 have h2:IntKind.i64.max=9223372036854775807:=by decide
 unfold JI;simp only [Lit.wf,h1,h2,Bool.and_eq_true,decide_eq_true_eq] at h;exact h
theorem ahO {α:Type} [yt α] {W:World} {v:Value} {b:Nat} (h:Fits W v (.sl b (List.replicate (size α) (.int .i64)))) {A:Option Addr} {n c:Nat} {l:List α} (hv:v= .slice A n c) (hr:Rd W W.heap.size (size α) A n (jP l)): ∀ x∈l,∀ y∈ints x,JI y:=by
 intro x hx y hy;obtain ⟨k,hk⟩:=List.mem_iff_getElem?.1 hx;obtain ⟨j,hj⟩:=List.mem_iff_getElem?.1 hy;have hkn:k<n:=by rw [<-hr.MR];exact (List.getElem?_eq_some_iff.1 hk).1
 obtain ⟨bb,off,a,rfl,_,ha,hc⟩:=hr.ak9 hkn;rw [hk] at ha
 cases ha;have h1:=hc j y hj;have hjs:j<size α:=by rw [<-len x];exact (List.getElem?_eq_some_iff.1 hj).1
 rcases h with h | ⟨ad,n',c',h,_,_,_,hcell⟩
 ·rw [hv] at h;cases h
 rw [hv] at h
 cases h;obtain ⟨cs,h2,_,h3⟩:=hcell k hkn;have hl:=h2.len;rw [List.length_replicate] at hl;have hu:cs[j]? =some (cs[j]'(by omega)):=List.getElem?_eq_getElem (by omega);have h4:=h3 j _ hu;rw [List.length_replicate,Go.WideShapes.add_plain,h1] at h4;obtain ⟨z,hz,hw⟩:=Xc h2 hu;rw [hz] at h4
 cases h4;exact wf_i64 hw
instance:yt Gr where
 size:=5
 ints x:=[x.kd,x.a,x.b,x.c,x.d]
 of l:=⟨l.getD 0 0,l.getD 1 0,l.getD 2 0,l.getD 3 0,l.getD 4 0⟩
 pos:=by omega
 len _:=rfl
 inv xs h:=by
  match xs,h with
  | [a,b,c,d,e],_=>rfl
theorem adX:flat Tryz.prog 30 22=some [.sl 40 (List.replicate 5 (.int .i64))]:=by kernel_rfl
theorem aai {W:World} {v:Value} (h:Sy Tryz.prog W v 22): ∃ A c,∃ l:List Gr,v= .slice A l.length c/\Rd W W.heap.size 5 A l.length (l.flatMap Gr.cells)/\ ∀ g∈l,g.ok:=by
 obtain ⟨⟨base,hk⟩,l,hl,ha⟩:=h;rw [adX] at hl
 cases hl;obtain ⟨A,n,c,rfl⟩:=okWide_slice Tryz.underlying22 hk;obtain ⟨a,l1,e,h1,_⟩:=eu.xP ha;simp [Value.cells] at e;obtain ⟨rfl,_⟩:=e;obtain ⟨A',n',c',l,e,hr,hn,hc,hb,h0⟩:=Xl (α:=Gr) h1;have hw:=ahO (α:=Gr) h1 e hr;simp only [Value.slice.injEq] at e;obtain ⟨rfl,rfl,rfl⟩:=e;have hlen:l.length=n:=Rd.MR (α:=Gr) hr;subst hlen;refine ⟨A,c,l,rfl,hr,λg hg=>?_⟩;have h:=hw g hg;exact ⟨h _ (by simp [ints]),h _ (by simp [ints]),h _ (by simp [ints]),h _ (by simp [ints]),h _ (by simp [ints])⟩
end
section
open ChangeShapes WideShapes RowKit
theorem adY {gs:List Gr} {A:Option Addr} {c m:Nat} {cr:Bool} {s:List Ac} (hs:s=eU gs m cr) (hm:m<=1000) (hg: ∀ g∈gs,g.ok) (w:World) (h:Rd w w.heap.size 5 A gs.length (gs.flatMap Gr.cells)):
  Calls Tryz.prog 11 #[.slice A gs.length c,.int .i64 ((m:Nat):Int),.bool cr] w (λe w'=> ∃ A' c',e= .returned (.slice A' s.length c')/\St w.heap.size w w' [.own 69 11 (.slice A' s.length c') s.length (s.flatMap Ac.cells)]):=by
 subst hs;exact OD hm hg w h
theorem anN {s F:List Ac} {A:Option Addr} {c r:Nat} (hF:F=oI s r) (hr:r<=1000) (hl:s.length<=1000) (w:World) (h:Rd w w.heap.size 11 A s.length (s.flatMap Ac.cells)):
  Calls Tryz.prog 13 #[.slice A s.length c,.int .i64 ((r:Nat):Int)] w (λe w'=> ∃ A' c',e= .returned (.slice A' F.length c')/\St w.heap.size w w' [.own 69 11 (.slice A' F.length c') F.length (F.flatMap Ac.cells)]):=by
 subst hF;exact Vv (by omega) (by omega) w h
theorem atK {B:Nat} {w0 w:World} {fs:List Fact} {A:Option Addr} {c:Nat} {F:List Ac} (h0: ∀ a∈F,bF a=0) (hl:F.length<=1000) (S:St B w0 w fs) (hu:Uk B w0) (zF:Ro fs 11 A F.length (F.flatMap Ac.cells)):
  Calls Tryz.prog 12 #[.slice A F.length c] w (Xb B w0 fs F):=aaf (adV h0 hl) S hu zF (by unfold reachBytes;omega)
section
variable {m m':Cl} {n q:Nat} {g g':Gh} {V:Nat->bI} {P:Nat->Option gI} {U:Nat->Bool} {Lt:iJ->Prop} {pl:Pl} {sh:Nat->Int×Int} {sv:List jA}
def QD (m:Cl) (q:Nat) (g:Gh) (n:Nat):Prop:=Inv g (vw m q) (pqv m q) (upd (WU m) n false) (LtQ m q) (m.off.at q) (shq m q) (svq m q)
structure W1 (m m':Cl) (n q':Nat):Prop where
 au: ∃ b,m'.au=upd m.au n { m.au n with bs:=upd (m.au n).bs q' b }
 fly:m'.fly=m.fly
 off:m'.off=m.off
 sh: ∀ q,q'≠q->shq m' q=shq m q
 sv: ∀ q,q'≠q->svq m' q=svq m q
theorem QD.far (I:QD m q g n) (hn:n<5) (hu:(m.au n).up=true) {q':Nat} (hq:q'≠q) (W:W1 m m' n q'):QD m' q g n/\vw m' q=vw m q/\(m'.au n).up=true/\(m'.au n).bs q=(m.au n).bs q/\(m'.au n).pend=(m.au n).pend:=by
 obtain ⟨b,hb⟩:=W.au;have atL:({ m.au n with bs:=upd (m.au n).bs q' b }:Nd).view q=(m.au n).view q:=by
  rw [Nb (X:={ m.au n with bs:=upd (m.au n).bs q' b }) hu,Nb hu];exact upd_ne (λe=>hq e.symm)
 have hvw:=WV hb atL;have hun:WU m'=WU m:=WW hb rfl;refine ⟨?_,hvw,by rw [hb,upd_same];exact hu,by rw [hb,upd_same];exact upd_ne (λe=>hq e.symm),by rw [hb,upd_same]⟩;unfold QD;rw [hvw,Ql hb rfl,hun,W.off,W.sh q hq,W.sv q hq];exact I.apB λx hx=>by
  obtain ⟨x1,x2⟩:=hx
  rcases x2 with x2 | ⟨j,hj,x2⟩
  ·rw [W.fly] at x2;exact .inl ⟨x1,.inl x2⟩
  rw [hb] at x2;by_cases e:j=n
  ·subst e;rw [upd_same] at x2;exact .inl ⟨x1,.inr ⟨j,hj,x2⟩⟩
  rw [upd_ne e] at x2;exact .inl ⟨x1,.inr ⟨j,hj,x2⟩⟩
end
section
variable {m m' m2:Cl} {n q k:Nat} {g g' g2:Gh}
structure Later (q:Nat) (g g':Gh) (m m':Cl):Prop where
 mle:g.m<=g'.m
 own: ∀ k,k<=g.m->g'.own k=g.own k
 iZ:aiT q g g' m m'
theorem Later.trans (h:Later q g g' m m') (h':Later q g' g2 m' m2):Later q g g2 m m2:=by
 refine ⟨Nat.le_trans h.mle h'.mle,λk hk=>(h'.own k (Nat.le_trans hk h.mle)).trans (h.own k hk),λe h3=>?_⟩;have h1:=h.mle;have h2:=h'.mle;have e1:g'.m=g.m:=by omega
 have eo:g'.o=g.o:=by unfold Gh.o;rw [e1];exact h.own _ (Nat.le_refl _)
 have:=h'.iZ (by omega) (by rw [eo];exact h.iZ e1 h3);rwa [eo] at this
theorem zC.later (h:zC g g') (h':aiT q g g' m m'):Later q g g' m m':=⟨h.m,h.own,h'⟩
structure LW (m:Cl) (q:Nat) (g:Gh) (k:Nat):Prop where
 qi:QI m q g
 apI:g.G.length<=k
 data: ∀ n,n<5->(m.au n).data.length<=184*k
end
theorem Ao {n q k p i b he hn:Int} (h1:0<=n/\n<3) (h2:0<=q/\q<2) (hk:(k=1/\0<=p/\p<2/\0<=i/\i<24/\0<=b/\b<1000/\he=0/\hn=0)\/(k=2/\p=0/\i=0/\b=0/\he=0/\hn=0)\/(k=3/\p=0/\i=0/\b=0/\0<=he/\he<3/\0<=hn/\hn<6)):bF ⟨2,n,q,0,0,k,p,i,b,he,hn⟩=0:=by
 rcases hk with ⟨rfl,h3,h4,h5,h6,h7,h8,rfl,rfl⟩ | ⟨rfl,rfl,rfl,rfl,rfl,rfl⟩ | ⟨rfl,rfl,rfl,rfl,h3,h4,h5,h6⟩
 all_goals
  simp [bF,bM,Kv,Ac.get,Ac.ints,fin,wW,zeros];omega
theorem ahP {k a b c:Int} (n q:Int) (h1:0<=n/\n<3) (h2:0<=q/\q<2):bF ⟨2,n,q,0,0,if (mF k a b c).kind=4 then 2 else (mF k a b c).kind,(mF k a b c).producer,(mF k a b c).id,(mF k a b c).body,(mF k a b c).aQ,(mF k a b c).hno⟩=0:=by
 have p1:=oM (n:=a) (m:=2) (by decide);have p2:=oM (n:=b) (m:=24) (by decide);have p3:=oM (n:=c) (m:=1000) (by decide);have p4:=oM (n:=a) (m:=3) (by decide);have p5:=oM (n:=b) (m:=6) (by decide);unfold mF
 split
 ·exact Ao h1 h2 (.inl ⟨rfl,p1.1,p1.2,p2.1,p2.2,p3.1,p3.2,rfl,rfl⟩)
 split
 ·exact Ao h1 h2 (.inr (.inl ⟨rfl,rfl,rfl,rfl,rfl,rfl⟩))
 split
 ·exact Ao h1 h2 (.inr (.inr ⟨rfl,rfl,rfl,rfl,p4.1,p4.2,p5.1,p5.2⟩))
 exact Ao h1 h2 (.inr (.inl ⟨rfl,rfl,rfl,rfl,rfl,rfl⟩))
theorem anP (g:Gr) (cr:Bool):bF (gW g cr)=0/\(gW g cr).kd≠1:=by
 have p1:=oM (n:=g.a) (m:=3) (by decide);have p2:=oM (n:=g.b) (m:=2) (by decide);have p3:=oM (n:=g.c) (m:=20) (by decide);have p4:=oM (n:=g.c) (m:=120) (by decide);unfold gW
 split
 ·exact ⟨ahP _ _ p1 p2,by unfold T9;dsimp only;omega⟩
 repeat' split
 all_goals
  refine ⟨?_,by dsimp only;omega⟩;simp [bF,bM,Kv,Ac.get,Ac.ints,fin,wW,zeros]
  try omega
theorem adZ: ∀ a∈mks,bF a=0:=by
 intro a ha;simp only [mks,List.mem_cons,List.not_mem_nil,or_false] at ha
 rcases ha with rfl | rfl<;>rfl
theorem RH (gs:List Gr) (m:Nat) (cr:Bool): ∀ a∈eU gs m cr,bF a=0:=by
 intro a ha
 rcases List.mem_append.1 ha with h | h
 ·exact adZ a h
 obtain ⟨g,_,rfl⟩:=List.mem_map.1 h;exact (anP g cr).1
theorem MN (gs:List Gr) (m:Nat) (cr:Bool):(eU gs m cr).length<=2+m:=by
 unfold eU mks;simp;omega
theorem IX {k:Int} {n:Nat} (h:(k=9\/k=3)/\n<5\/k=7/\n=0):bF (acK k (n:Int))=0/\(acK k (n:Int)).kd≠1:=by
 rcases h with ⟨h1,h⟩ | ⟨rfl,rfl⟩
 ·have:n=0\/n=1\/n=2\/n=3\/n=4:=by omega
  rcases h1 with rfl | rfl<;>rcases this with rfl | rfl | rfl | rfl | rfl<;>exact ⟨rfl,by show (_:Int)≠1;decide⟩
 exact ⟨rfl,by show (7:Int)≠1;decide⟩
theorem MO: ∀ (r:Nat),∀ a∈xL r,bF a=0/\a.kd≠1
 | 0,a,h=>by cases h
 | r+1,a,h=>by
  rw [Fb] at h
  rcases List.mem_append.1 h with h | h
  ·rcases List.mem_append.1 h with h | h
   ·exact MO r a h
   obtain ⟨n,hn,rfl⟩:=List.mem_map.1 h;exact IX (.inl ⟨.inr rfl,List.mem_range.1 hn⟩)
  rw [List.mem_singleton] at h;subst h;exact IX (n:=0) (.inr ⟨rfl,rfl⟩)
theorem aaj (r:Nat): ∀ a∈starts 5++xL r,bF a=0/\a.kd≠1:=by
 intro a h
 rcases List.mem_append.1 h with h | h
 ·obtain ⟨n,hn,rfl⟩:=List.mem_map.1 h;exact IX (.inl ⟨.inl rfl,List.mem_range.1 hn⟩)
 exact MO r a h
theorem Ap (gs:List Gr) (m:Nat) (cr:Bool) (r:Nat): ∀ a∈oI (eU gs m cr) r,bF a=0:=by
 intro a h;unfold oI at h;rw [List.append_assoc] at h
 rcases List.mem_append.1 h with h | h
 ·exact RH gs m cr a h
 exact (aaj r a h).1
theorem Nj (gs:List Gr) (m:Nat) (cr:Bool) (r:Nat):(oI (eU gs m cr) r).length<=7+m+6*r:=by
 have:=MN gs m cr;rw [Qs];omega
theorem Xd (gs:List Gr) {m r:Nat} (h:m+6*r<=520) (cr:Bool):Bs (zW.run (oI (eU gs m cr) r)) 540:=by
 have h1:=Nj gs m cr r;have:=abO (oI (eU gs m cr) r) aj9 (λa ha=>Tt (Ap gs m cr r a ha)) (by omega);exact fQ.mono this (by omega) (by omega) (by omega) (by omega)
def pQ (cs:List Ac) (num:Int) (op:Ev) (nd:Int) (q:Nat):Prop:=0<=num/\ ∃ a,cs[num.toNat]? =some a/\a.op=op/\a.nd=nd/\a.qu=((q:Nat):Int)
def OE (cs:List Ac) (l:iJ):Prop:=l.kd=0->0<=l.tg/\pQ cs l.num l.op l.tg l.q
def SvA (cs:List Ac) (s:jA):Prop:=s.num<0\/pQ cs s.num s.op ((s.nd:Nat):Int) s.q
structure NdA (cs:List Ac) (n:Nat) (x:Nd):Prop where
 kU: ∀ l∈x.inbox,OE cs l/\(l.kd=0->l.tg=((n:Nat):Int))
 qY: ∀ q evs op num a,x.pend=some (.serve q evs op num a)->pQ cs num op ((n:Nat):Int) q
structure aN (cs:List Ac) (m:Cl):Prop where
 au: ∀ n,NdA cs n (m.au n)
 fly: ∀ l∈m.fly,OE cs l
 aP: ∀ s∈m.aP,SvA cs s
 calls:m.calls=cs.length
section
variable {cs:List Ac} {m w:Cl} {n q:Nat} {x y:Nd} {l:iJ} {op:Ev} {num:Int} {a:iH} {ac:Ac}
theorem OE.not (h:l.kd≠0):OE cs l:=λh1=>absurd h1 h
theorem NdA.same (h:NdA cs n x) (hi:y.inbox=x.inbox) (hp:y.pend=x.pend):NdA cs n y:=⟨by rw [hi];exact h.kU,by rw [hp];exact h.qY⟩
theorem NdA.pend (h:NdA cs n x) (hi:y.inbox=x.inbox) (hp: ∀ q evs op num a,y.pend=some (.serve q evs op num a)->pQ cs num op ((n:Nat):Int) q):NdA cs n y:=⟨by rw [hi];exact h.kU,hp⟩
theorem aN.put (h:aN cs w) (hx:NdA cs n x):aN cs (w.put n x):=
 ⟨λj=>by
  by_cases e:j=n
  ·subst e;rw [show (w.put j x).au j=x from upd_same _ _ _];exact hx
  rw [show (w.put n x).au j=w.au j from upd_ne e];exact h.au j,h.fly,h.aP,h.calls⟩
theorem aN.cK (h:aN cs w) {b:bI}:aN cs (w.cK n q b):=h.put ((h.au n).same rfl rfl)
theorem aN.send (h:aN cs w) (hl:OE cs l):aN cs (w.send l):=
 ⟨h.au,λk hk=>(List.mem_append.1 hk).elim (h.fly k) λhk=>by rw [List.mem_singleton] at hk;subst hk;exact hl,h.aP,h.calls⟩
theorem aN.tell (h:aN cs w) (hs:num<0\/pQ cs num op ((n:Nat):Int) q):aN cs (w.tell n q op a num):=
 ⟨h.au,h.fly,λs hk=>(List.mem_append.1 hk).elim (h.aP s) λhk=>by rw [List.mem_singleton] at hk;subst hk;exact hs,h.calls⟩
theorem aN.brk (h:aN cs w):aN cs (w.tell n q op a (-1)):=h.tell (.inl (by decide))
theorem aN.done (h:aN cs w) (hc:pQ cs num op ((n:Nat):Int) q):aN cs (w.done n q op num a):=by
 unfold Cl.done
 split
 ·exact (h.tell (.inr hc)).send (.not (by show (1:Int)≠0;decide))
 exact h.send (.not (by show (1:Int)≠0;decide))
theorem tV {rs:List dM} (h:y.write rs=some x):x.inbox=y.inbox/\x.pend=y.pend:=by
 unfold Nd.write at h;obtain ⟨d,_,rfl⟩:=Option.map_eq_some_iff.1 h;exact ⟨rfl,rfl⟩
theorem aN.have_ (h:aN cs w):aN cs (w.have_ n q):=h.send (.not (by show (3:Int)≠0;decide))
theorem aN.part (h:aN cs w) {at_:Int}:aN cs (w.part n q at_):=by
 unfold Cl.part
 split
 ·exact h
 exact h.send (.not (by show (4:Int)≠0;decide))
theorem aN.serve (h:aN cs w) (hc:pQ cs l.num l.op ((n:Nat):Int) l.q):aN cs (w.serve n l):=by
 unfold Cl.serve
 split
 ·exact h.done hc
 split
 ·exact h.done hc
 rename_i x hx
 exact h.put ((h.au n).pend (tV hx).1 λq evs op num a e=>by cases e;exact hc)
theorem aN.IY (h:aN cs w) {rs:List dM} {p:gI} (hx:(w.au n).write rs=some x) (hp: ∀ q evs op num a,p≠ .serve q evs op num a):aN cs (w.put n { x with pend:=some p }):=
 h.put ((h.au n).pend (tV hx).1 λq evs op num a e=>absurd (Option.some.inj e) (hp q evs op num a))
theorem aN.offered (h:aN cs w):aN cs (w.offered n l):=by
 unfold Cl.offered
 split
 ·exact h
 split
 ·exact h.have_
 split
 ·exact h
 rename_i x hx
 exact h.IY hx (λ_ _ _ _ _ e=>by cases e)
theorem aN.got (h:aN cs w):aN cs (w.got n l):=by
 unfold Cl.got
 split
 ·exact h
 split
 ·exact h.have_
 split
 ·exact h
 split
 ·exact h
 rename_i x hx
 exact h.IY hx (λ_ _ _ _ _ e=>by cases e)
theorem aN.caught (h:aN cs w):aN cs (w.caught n l):=by
 unfold Cl.caught
 split
 ·exact h
 split
 ·exact h
 split
 ·exact h.cK.part
 split
 ·exact h
 rename_i x hx
 exact h.IY hx (λ_ _ _ _ _ e=>by cases e)
theorem aN.learnt (h:aN cs w):aN cs (w.learnt n l):=by
 unfold Cl.learnt
 split
 ·exact h.put ((h.au n).same rfl rfl)
 split
 ·exact h.put ((h.au n).same rfl rfl)
 rename_i x hx
 exact h.put ((h.au n).pend (tV hx).1 λq evs op num a e=>by cases e)
theorem aN.handle (h:aN cs w) (hl:OE cs l) (ht:l.kd=0->l.tg=((n:Nat):Int)):aN cs (w.handle n l):=by
 unfold Cl.handle
 split
 ·rename_i hk
  have:=(hl hk).2;rw [ht hk] at this;exact h.serve this
 split
 ·exact h.offered
 split
 ·exact h.caught
 split
 ·exact h.got
 exact h.learnt
theorem aN.drain: ∀ (ls:List iJ) {w:Cl},aN cs w->(∀ l∈ls,OE cs l/\(l.kd=0->l.tg=((n:Nat):Int)))->aN cs (Cl.drain n ls w)
 | [],w,h,_=>h
 | l::r,w,h,hl=>by
  have hr: ∀ l∈r,OE cs l/\(l.kd=0->l.tg=((n:Nat):Int)):=λk hk=>hl k (List.mem_cons_of_mem _ hk);have h1:aN cs ((w.put n { w.au n with inbox:=r }).handle n l):=aN.handle (h.put ⟨hr,(h.au n).qY⟩) (hl l List.mem_cons_self).1 (hl l List.mem_cons_self).2;unfold Cl.drain
  split
  ·exact aN.drain r h1 hr
  exact h1
theorem ahQ {b:bI} {s:Bool}: ∀ l∈j6 n q b s,l.kd≠0:=by
 intro l hl;unfold j6 at hl
 rcases List.mem_append.1 hl with hl | hl
 ·rcases List.mem_append.1 hl with hl | hl
  ·split at hl
   ·rw [List.mem_singleton] at hl;subst hl;show (2:Int)≠0;decide
   cases hl
  split at hl
  ·rw [List.mem_singleton] at hl;subst hl;show (5:Int)≠0;decide
  cases hl
 split at hl
 ·rw [List.mem_singleton] at hl;subst hl;show (5:Int)≠0;decide
 cases hl
theorem aN.Md (h:aN cs w):aN cs (w.Md n):=by
 have h1:aN cs (w.put n { w.au n with turn:=(w.au n).turn+1 }):=h.put ((h.au n).same rfl rfl);exact ⟨h1.au,λk hk=>(List.mem_append.1 hk).elim (h.fly k) λhk=> .not (ahQ k hk),h1.aP,h1.calls⟩
theorem aN.sj (h:aN cs w) {p:gI} (hp: ∀ q evs op num a,p= .serve q evs op num a->pQ cs num op ((n:Nat):Int) q):aN cs (w.sj n p):=by
 cases p with
 | serve q evs op num a=>exact h.cK.done (hp _ _ _ _ _ rfl)
 | begun q b=>exact h.cK.have_
 | got q b last=>
  show aN cs (if last=true then ((w.cK n q b).put n { (w.cK n q b).au n with sure:=upd (w.au n).sure q false }).tell n q bJ gV (-1) else (w.cK n q b).have_ n q)
  split
  ·exact aN.brk (aN.put h.cK (x:={ (w.cK n q b).au n with sure:=upd (w.au n).sure q false }) ((h.cK.au n).same rfl rfl))
  exact h.cK.have_
 | iZ q b at_=>exact h.cK.part
 | forget q b=>exact h.cK
theorem aN.step (h:aN cs w):aN cs (w.step n):=by
 unfold Cl.step
 split
 ·exact h
 split
 ·rename_i p hp
  exact aN.sj (h.put (x:={ w.au n with syn:=(w.au n).data.length,pend:=none }) ((h.au n).pend rfl λq evs op num a e=>by cases e)) λq evs op num a e=>(h.au n).qY q evs op num a (by rw [hp,e])
 have h1:=aN.drain (n:=n) (w.au n).inbox h (h.au n).kU
 split
 ·exact h1.Md
 exact h1
theorem aN.come (h:aN cs w) (hl:OE cs l):aN cs (w.come l):=by
 unfold Cl.come
 split
 ·exact ⟨h.au,h.fly,h.aP,h.calls⟩
 split
 ·split
  ·exact ⟨h.au,λk hk=>(List.mem_append.1 hk).elim (h.fly k) λhk=>by rw [List.mem_singleton] at hk;subst hk;exact .not (by show (6:Int)≠0;decide),h.aP,h.calls⟩
  exact ⟨h.au,h.fly,h.aP,h.calls⟩
 split
 ·refine h.put ⟨λk hk=>(List.mem_append.1 hk).elim ((h.au _).kU k) λhk=>?_,(h.au _).qY⟩;rw [List.mem_singleton] at hk;subst hk;exact ⟨hl,λe=>(Int.toNat_of_nonneg (hl e).1).symm⟩
 exact h
theorem aN.pick (h:aN cs w) {at_:Nat} {c s:Bool}:aN cs (w.pick at_ c s):=by
 unfold Cl.pick
 split
 ·exact h
 rename_i l hl
 have h1:aN cs (if s=true then w else { w with fly:=w.fly.eraseIdx (at_ % w.fly.length) }):=by
  split
  ·exact h
  exact ⟨h.au,λk hk=>h.fly k (List.mem_of_mem_eraseIdx hk),h.aP,h.calls⟩
 dsimp only
 split
 ·exact h1.come (h.fly l (List.mem_of_getElem? hl))
 exact h1
theorem aN.comes: ∀ (ls:List iJ) {w:Cl},aN cs w->(∀ l∈ls,OE cs l)->aN cs (ls.foldl Cl.come w)
 | [],_,h,_=>h
 | l::r,_,h,hl=>aN.comes r (h.come (hl l List.mem_cons_self)) λk hk=>hl k (List.mem_cons_of_mem _ hk)
theorem aN.all (h:aN cs w):aN cs w.all:=aN.comes w.fly ⟨h.au,λk hk=>(by cases hk),h.aP,h.calls⟩ h.fly
theorem aN.make (h:aN cs w):aN cs (w.make n q):=by
 unfold Cl.make
 split
 ·exact h
 split
 ·exact h
 split
 ·exact h
 rename_i x hx
 have h1:=h.put (n:=n) (x:={ x with syn:=x.data.length,bs:=upd x.bs q (iL ((w.au n).bs q) 1).1 }) ((h.au n).same (tV hx).1 (tV hx).2);exact ⟨h1.au,h1.fly,h1.aP,h1.calls⟩
theorem aN.move (h:aN cs w) {tg:Int}:aN cs (w.move q tg):=by
 unfold Cl.move
 split
 ·exact h
 split
 ·exact h.cK
 exact h
theorem aN.recovered {evs:List Ev} {an:List iH}: ∀ (ls:List Nat) {w:Cl},aN cs w->aN cs (w.recovered n q evs an ls)
 | [],_,h=>h
 | i::r,w,h=>by
  unfold Cl.recovered;exact aN.recovered r h.brk
theorem aN.recover (h:aN cs w):aN cs (w.recover n q):=by
 unfold Cl.recover
 split
 ·exact h.brk
 exact aN.recovered _ h
theorem aN.woken {bs:Nat->bI}: ∀ (ls:List Nat) {w:Cl},aN cs w->aN cs (Cl.woken n bs ls w)
 | [],_,h=>h
 | q::r,w,h=>by
  unfold Cl.woken
  split
  ·exact aN.woken r h
  exact aN.woken r h.recover.cK.brk
theorem aN.start (h:aN cs w):aN cs (w.start n):=by
 unfold Cl.start
 split
 ·exact h
 split
 ·exact h
 exact aN.woken _ (h.put ⟨λl hl=>(by cases hl),λ_ _ _ _ _ e=>(by cases e)⟩)
theorem aN.crash (h:aN cs w) {kp:Int}:aN cs (w.crash n kp):=by
 unfold Cl.crash
 split
 ·exact h.put ⟨λl hl=>(by cases hl),λ_ _ _ _ _ e=>(by cases e)⟩
 exact h
theorem pQ.more {nd:Int} (h:pQ cs num op nd q):pQ (cs++[ac]) num op nd q:=by
 obtain ⟨h1,b,h2,h3⟩:=h;exact ⟨h1,b,by rw [List.getElem?_append_left (List.getElem?_eq_some_iff.1 h2).1];exact h2,h3⟩
theorem OE.more (h:OE cs l):OE (cs++[ac]) l:=λe=>⟨(h e).1,(h e).2.more⟩
def jN (a:Ac):Bool:=decide (a.kd=2)
theorem aN.act (h:aN cs m) (ha:J6 ac):aN (if ac.kd=2 then cs++[ac] else cs) (m.act ac):=by
 obtain ⟨a1,a2,a3,a4,a5,a6⟩:=ha;unfold Cl.act;by_cases k2:ac.kd=2
 ·rw [if_pos k2,if_neg (by omega),if_pos k2];refine ⟨λn=>⟨λl hl=>⟨((h.au n).kU l hl).1.more,((h.au n).kU l hl).2⟩,λq evs op num a e=>((h.au n).qY q evs op num a e).more⟩,λl hl=>?_,λs hs=>(h.aP s hs).imp id pQ.more,by rw [List.length_append];show m.calls+1=_;rw [h.calls];rfl⟩
  rcases List.mem_append.1 hl with hl | hl
  ·exact (h.fly l hl).more
  rw [List.mem_singleton] at hl;subst hl;refine λ_=>⟨by show 0<=ac.nd;omega,by show (0:Int)<=((m.calls:Nat):Int);omega,ac,?_,rfl,rfl,by show ac.qu=((ac.qu.toNat:Nat):Int);omega⟩
  show (cs++[ac])[((m.calls:Nat):Int).toNat]? =some ac
  rw [Int.toNat_natCast,h.calls,List.getElem?_append_right (Nat.le_refl _),Nat.sub_self];rfl
 rw [if_neg k2]
 split
 ·exact h.make
 split; · exact h.step
 split; · exact h.pick
 split; · exact h.all
 split; · exact h.crash
 split; · exact h.start
 exact h.move
theorem aN.run: ∀ (l:List Ac) {cs:List Ac} {m:Cl},aN cs m->(∀ a∈l,J6 a)->aN (cs++l.filter jN) (m.run l)
 | [],cs,m,h,_=>by
  rw [show ([]:List Ac).filter jN=[] from rfl,List.append_nil];exact h
 | a::l,cs,m,h,ha=>by
  have h1:=aN.run l (h.act (ha a List.mem_cons_self)) λx hx=>ha x (List.mem_cons_of_mem _ hx);rw [List.filter_cons];by_cases e:a.kd=2
  ·rw [if_pos e,List.append_assoc] at h1;rw [if_pos (by unfold jN;exact decide_eq_true e)];exact h1
  rw [if_neg e] at h1;rw [if_neg (by unfold jN;rw [decide_eq_false e];decide)];exact h1
theorem Xe:aN [] zW:=⟨λ_=>⟨λl hl=>(by cases hl),λ_ _ _ _ _ e=>(by cases e)⟩,λl hl=>(by cases hl),λs hs=>(by cases hs),rfl⟩
end
theorem JL: ∀ r,(xL r).filter jN=[]
 | 0=>rfl
 | r+1=>by
  rw [Fb,List.filter_append,List.filter_append,JL r];rfl
theorem BI (s:List Ac) (r:Nat):(oI s r).filter jN=s.filter jN:=by
 unfold oI;rw [List.filter_append,List.filter_append,JL,show (starts 5).filter jN=[] from rfl,List.append_nil,List.append_nil]
theorem aak (gs:List Gr) (m r:Nat) (cr:Bool):aN ((eU gs m cr).filter jN) (zW.run (oI (eU gs m cr) r)):=by
 have:=aN.run (oI (eU gs m cr) r) Xe λa ha=>Tt (Ap gs m cr r a ha);rwa [BI,List.nil_append] at this
section
variable {l:List Ac} {i:Nat} {a:Ac}
theorem anQ (h:l[i]? =some a) (hq:a.kd=2):(l.take i).filter jN++[a]=(l.take (i+1)).filter jN:=by
 rw [List.take_add_one,h,List.filter_append];simp [jN,hq]
theorem atM (h:l[i]? =some a) (hq: ¬ a.kd=2):(l.take i).filter jN=(l.take (i+1)).filter jN:=by
 rw [List.take_add_one,h,List.filter_append];simp [jN,hq]
end
theorem KY {A:Option Addr} {c:Nat} {l cs:List Ac} {w:World} (hv:l.filter jN=cs) (hl:l.length<=1000) (h:Rd w w.heap.size 11 A l.length (l.flatMap Ac.cells)):
    Calls Tryz.prog 17 #[.slice A l.length c] w (λe w'=> ∃ A' c',e= .returned (.slice A' cs.length c')/\St w.heap.size w w' [.own 69 11 (.slice A' cs.length c') cs.length (cs.flatMap Ac.cells)]):=by
 have S:=(St.start w).bZ h;refine gy 25 Tryz.func17 ?_;refine cw [0] ?_;refine zN 17 ?_;have S1:=S.nil 69 11;refine eD (X:=Nat×Nat×(Option Addr)×Nat×(List Ac)) (λxv=>[(0,.slice A l.length c),(2,.slice none 0 0),(3,.slice xv.2.2.1 xv.2.1 xv.2.2.2.1),(4,.int .i64 ((xv.1:Nat):Int))]) (λxv wr=>(xv.1<=l.length)/\(xv.2.1<=xv.1)/\(xv.2.2.2.2=(l.take xv.1).filter jN)/\St w.heap.size w wr [.own 69 11 (.slice xv.2.2.1 xv.2.1 xv.2.2.2.1) xv.2.1 ((xv.2.2.2.2).flatMap Ac.cells),.rd 11 A l.length ((l).flatMap Ac.cells)]) (λxv=>l.length-xv.1) (0,0,none,0,[]) ?_ ?_ ?_
 ·exact ⟨Nat.zero_le _,Nat.zero_le _,rfl,S1⟩
 ·exact ⟨rfl,rfl,rfl,rfl,trivial⟩
 rintro ⟨i,k,Ab,cb,ys⟩ w2 ⟨hi4,hi5,E8,S3⟩
 try dsimp only at hi4 hi5 E8 S3
 refine bn (l':=[(0,.slice A l.length c),(2,.slice none 0 0),(3,.slice Ab k cb),(4,.int .i64 ((i:Nat):Int))]) ⟨rfl,rfl,rfl,rfl,trivial⟩ (aH (aH (aB (vm ?_))));refine zN 2 ?_;by_cases h7:((i:Nat):Int)< ((l.length:Nat):Int)
 ·refine zN 12 ?_;obtain ⟨b8,o9,rfl⟩:=Rd.addr (St.rd 1 S3 rfl) (by omega);obtain ⟨x10,EI⟩:=Ho i (St.rd 1 S3 rfl) (by omega);refine vv (jX i) ?_;refine zQ ?_;refine vv (ah rfl rfl (av Tryz.underlying3 rfl (Rd.XF (i:=0) (St.rd 1 S3 rfl) (bC (enc:=Ac.cells) (sz:=11) (λ_=>rfl) EI rfl)))) ?_;by_cases h12:x10.kd=2
  ·refine zN 8 ?_;refine vv (jX i) ?_;refine vv (ah rfl rfl (aA (cs:=Ac.cells x10) Tryz.underlying69 rfl jH rfl (Rd.uY (St.rd 1 S3 rfl) (λ_ _ h=>bC (enc:=Ac.cells) (sz:=11) (λ_=>rfl) EI h)))) ?_;refine NS S3 ?_;intro b13 HY gZ;refine dI (news:=[.int .i64 x10.kd,.int .i64 x10.nd,.int .i64 x10.qu,.int .i64 x10.at_,.int .i64 x10.kp,.int .i64 x10.ek,.int .i64 x10.ep,.int .i64 x10.ei,.int .i64 x10.eb,.int .i64 x10.eh,.int .i64 x10.en]) (xs':=(ys++[x10]).flatMap Ac.cells) 1 gZ (wn rfl) rfl rfl rfl rfl rfl rfl (St.lC (xs:=[.int .i64 x10.kd,.int .i64 x10.nd,.int .i64 x10.qu,.int .i64 x10.at_,.int .i64 x10.kp,.int .i64 x10.ek,.int .i64 x10.ep,.int .i64 x10.ei,.int .i64 x10.eb,.int .i64 x10.eh,.int .i64 x10.en]) 0 gZ rfl rfl rfl) Tryz.underlying23 DC rfl (by decide) (bL rfl) (by simp only [maxLen];omega) (by omega) (iO (enc:=Ac.cells) rfl rfl) ?_;intro A16 c17 Ht ajY ajZ kM;refine zN 6 ?_;refine vv (v:= .int .i64 ((i+1:Nat):Int)) jg ?_;refine zN 2 ?_;have iI:=kM.aT [0];refine aU (i+1,k+1,A16,c17,ys++[x10]) ?_ ⟨rfl,rfl,rfl,rfl,trivial⟩ (by first | omega | (dsimp only;omega));exact ⟨(by dsimp only;omega),(by dsimp only;omega),(by dsimp only;rw [E8];exact anQ EI h12),iI⟩
  refine zN 9 ?_;refine vv (v:= .int .i64 ((i+1:Nat):Int)) jg ?_;refine zN 2 ?_;refine aU (i+1,k,Ab,cb,ys) ?_ ⟨rfl,rfl,rfl,rfl,trivial⟩ (by first | omega | (dsimp only;omega));exact ⟨(by dsimp only;omega),(by dsimp only;omega),(by dsimp only;rw [E8];exact atM EI h12),S3⟩
 refine zN 17 ?_;have hys:=(S3.own 0 rfl).1;rw [gX (sz:=11) (λ_=>rfl)] at hys;obtain rfl:k=ys.length:=by omega
 have hyl:=E8;rw [List.take_of_length_le (by omega)] at hyl;rw [<-hyl] at hv;subst hv;have lQ:=S3.aT [1];exact ⟨Ab,cb,rfl,lQ⟩
def TdA (m:Cl) (t:sO):Prop:=0<=t.num/\t.num< ((m.calls:Nat):Int)/\(t.ans.code=7\/t.ans.code=12\/(t.pl.node<0/\ ∃ s∈m.aP,s.num=t.num/\s.ans=t.ans))
structure dP (m:Cl):Prop where
 fly: ∀ l∈m.fly,l.tg= -1->TdA m l.aZ
 aZ: ∀ t∈m.aZ,TdA m t
section
variable {cs:List Ac} {m w m':Cl} {n q:Nat} {x:Nd} {l:iJ} {t:sO} {op:Ev} {num:Int} {a:iH} {ac:Ac} {b:bI}
theorem TdA.mono (h:TdA m t) (hc:m.calls<=m'.calls) (hs: ∀ s∈m.aP,s∈m'.aP):TdA m' t:=
 ⟨h.1,by have:=h.2.1;omega,h.2.2.imp id λh=>h.imp id λ⟨h1,s,h2,h3⟩=>⟨h1,s,hs s h2,h3⟩⟩
theorem dP.put (h:dP w):dP (w.put n x):=⟨h.fly,h.aZ⟩
theorem dP.cK (h:dP w):dP (w.cK n q b):=h.put
theorem dP.send (h:dP w) (hl:l.tg= -1->TdA w l.aZ):dP (w.send l):=
 ⟨λk hk=>(List.mem_append.1 hk).elim (h.fly k) λhk=>by rw [List.mem_singleton] at hk;subst hk;exact hl,h.aZ⟩
theorem dP.far (h:dP w) (hl:0<=l.tg):dP (w.send l):=h.send λe=>by omega
theorem dP.tell (h:dP w):dP (w.tell n q op a num):=
 ⟨λk hk e=>(h.fly k hk e).mono (Nat.le_refl _) λs hs=>List.mem_append_left _ hs,λk hk=>(h.aZ k hk).mono (Nat.le_refl _) λs hs=>List.mem_append_left _ hs⟩
theorem dP.vM (h:dP w) (hs:serves ((w.au n).bs q)) (h1:0<=num) (h2:num< ((w.calls:Nat):Int)):dP (w.done n q op num a):=by
 unfold Cl.done;rw [if_pos hs];exact h.tell.send λ_=>⟨h1,h2,.inr (.inr ⟨by show (-1:Int)<0;decide,_,List.mem_append_right _ (List.mem_singleton.2 rfl),rfl,rfl⟩)⟩
theorem dP.Cx (h:dP w) (hs: ¬ serves ((w.au n).bs q)) (hc:a.code=7\/a.code=12) (h1:0<=num) (h2:num< ((w.calls:Nat):Int)):dP (w.done n q op num a):=by
 unfold Cl.done;rw [if_neg hs];exact h.send λ_=>⟨h1,h2,hc.elim .inl λh=> .inr (.inl h)⟩
theorem dP.have_ (h:dP w) (hr:0<=((w.au n).bs q).fr):dP (w.have_ n q):=h.far hr
theorem dP.part (h:dP w) {at_:Int} (hb:aj ((w.au n).bs q)=0):dP (w.part n q at_):=by
 unfold Cl.part
 split
 ·exact h
 rename_i hf
 exact h.far (Tv (Mk hf).1 hb).1
theorem Cz:((w.cK n q b).au n).bs q=b:=by
 show (upd w.au n _ n).bs q=b
 rw [upd_same];exact upd_same _ _ _
theorem ajj (hr:b.role=4) (hb:aj b=0):0<=b.fr:=by
 have hs:=gF hb;unfold bq at hs;omega
theorem Vw (hb:aj b=0) (he:bE op=0) (hk:op.kind≠4) (hs: ¬ serves b):(gN b op).2.1.code=7\/(gN b op).2.1.code=12:=by
 unfold serves at hs;unfold gN;rw [if_neg (λh=>h hb),if_neg (λh=>h he),if_neg hk];by_cases h3:b.role=3
 ·rw [if_pos h3];exact .inr rfl
 rw [if_neg h3,if_pos (by omega)];exact .inl rfl
theorem dP.hnd (h:dP m) (H:Hnd m n l m') (hb: ∀ q,q<4->aj ((m.au n).bs q)=0) (hq:l.q<4) (hop:l.kd=0->bE l.op=0/\l.op.kind≠4) (hn:l.kd=0->0<=l.num/\l.num< ((m.calls:Nat):Int)):dP m':=by
 cases H with
 | same=>exact h
 | done a hk hc=>
  by_cases hs:serves ((m.au n).bs l.q)
  ·exact h.vM hs (hn hk).1 (hn hk).2
  refine h.Cx hs ?_ (hn hk).1 (hn hk).2
  rcases hc with ⟨_,rfl⟩ | ⟨_,h1,_⟩
  ·exact Vw (hb _ hq) (hop hk).1 (hop hk).2 hs
  exact absurd h1 hs
 | have_ hr=>exact h.have_ (ajj hr (hb _ hq))
 | part b h1 h2 h3 h4 h5 h6=>exact dP.part h.cK (by rw [Cz];exact h6)
 | pend p Y d=>exact h.put
 | hear=>exact h.put
theorem Qt {nd:Int} (h:aN cs m) (hc:pQ cs num op nd q):0<=num/\num< ((m.calls:Nat):Int):=by
 obtain ⟨h1,a,h2,_⟩:=hc;have:=(List.getElem?_eq_some_iff.1 h2).1;have:=h.calls;omega
theorem dP.step {T S D K:Nat} (h:dP m) (hC:aN cs m) (hB:fQ m T S D K) (hn:n<5):dP (m.step n):=by
 cases hu:(m.au n).up with
 | false=>rw [EW hu];exact h
 | true=>
  obtain ⟨rs,us,hU⟩:=(hB.lW n hn).Tq hu
  cases hp:(m.au n).pend with
  | some p=>
   obtain ⟨h1,h2,h3⟩:=hU.WS p hp;obtain ⟨_,hf⟩:=sZ hU.tape hU.nN h2 h3;unfold Cl.step;rw [if_neg (by rw [hu];decide),hp];dsimp only;have e:(m.put n { m.au n with syn:=(m.au n).data.length,pend:=none }).au n={ m.au n with syn:=(m.au n).data.length,pend:=none }:=upd_same _ _ _;have h0:dP (m.put n { m.au n with syn:=(m.au n).data.length,pend:=none }):=h.put
   cases p with
   | serve q evs op num a=>
    have r:=Qt hC ((hC.au n).qY q evs op num a hp);refine dP.vM h0.cK ?_ r.1 r.2;rw [Cz,e];exact h2.1
   | begun q b=>
    obtain ⟨_,e1,f,rfl,_,_,_,h4,_⟩:=h2;exact dP.have_ h0.cK (by rw [Cz];exact h4)
   | got q b last=>
    show dP (if last=true then _ else _)
    split
    ·exact dP.tell (dP.put h0.cK)
    rename_i hl
    have hl:last=false:=by simpa using hl
    obtain ⟨h4,_,_,h5,_⟩:=h2;have h6:=(h5 hl).1;refine dP.have_ h0.cK ?_;rw [Cz];exact ajj (by rw [h6];exact h4) hf
   | iZ q b at_=>exact dP.part h0.cK (by rw [Cz];exact hf)
   | forget q b=>exact h0.cK
  | none=>
   have P:=Qj (n:=n) (λw=>Rdg m n rs w/\dP w) (λw l r ⟨H,A⟩ hp1 hin=>by
    obtain ⟨h1,h2,h3,h4⟩:=Qk (λl hl=>IK (hB.kU n hn l hl)) H hp1 hin;have hm:=H.kU l (by rw [hin];simp);have hlb:=(hB.kU n hn l hm).1.2.2.2;have hli:=(hC.au n).kU l hm;have hcc:=H.keep.calls;exact ⟨h1.1,h4,dP.hnd (dP.put A) h3 h2.nN h1.1 hlb λhk=>by have:=Qt hC (hli.1 hk).2;show 0<=l.num/\l.num< ((w.calls:Nat):Int);rw [hcc];exact this⟩) _ m rfl ⟨aiS hu ⟨_,hU⟩,h⟩
   obtain ⟨R,A⟩:=P;rw [wO hu hp]
   split
   ·obtain ⟨us',KG⟩:=R.tape;have hqq:((m.more n).au n).turn % 4<4:=Nat.mod_lt _ (by decide);refine ⟨λk hk=>(List.mem_append.1 hk).elim (A.fly k) λhk e=>?_,A.aZ⟩
    exfalso
    unfold j6 at hk
    rcases List.mem_append.1 hk with hk | hk
    ·rcases List.mem_append.1 hk with hk | hk
     ·split at hk
      ·rename_i hr
       rw [List.mem_singleton] at hk;subst hk;have h9:(((m.more n).au n).bs (((m.more n).au n).turn % 4)).tg= -1:=e;have:=(Tv hr (KG.nN _ hqq)).1;omega
      cases hk
     split at hk
     ·rw [List.mem_singleton] at hk;subst hk;exact absurd e (by show ¬ (-2:Int)= -1;decide)
     cases hk
    split at hk
    ·rw [List.mem_singleton] at hk;subst hk;exact absurd e (by show ¬ (-2:Int)= -1;decide)
    cases hk
   exact A
theorem dP.come (h:dP w) (hl:l.tg= -1->TdA w l.aZ) (hb:lZ l):dP (w.come l):=by
 unfold Cl.come
 split
 ·rename_i e
  exact ⟨h.fly,λt ht=>(List.mem_append.1 ht).elim (h.aZ t) λht=>by rw [List.mem_singleton] at ht;subst ht;exact hl e⟩
 split
 ·rename_i e1 e2
  have hf:0<=l.fr:=by
   rcases hb.2.2.1 with h3 | h3 | h3<;>omega
  split
  ·exact ⟨λk hk=>(List.mem_append.1 hk).elim (h.fly k) λhk e=>by rw [List.mem_singleton] at hk;subst hk;have h9:l.fr= -1:=e;omega,h.aZ⟩
  exact ⟨h.fly,h.aZ⟩
 split
 ·exact h.put
 exact h
theorem dP.pick (h:dP w) (hb: ∀ l∈w.fly,lZ l) {at_:Nat} {c s:Bool}:dP (w.pick at_ c s):=by
 unfold Cl.pick
 split
 ·exact h
 rename_i l hl
 have hm:=List.mem_of_getElem? hl;have h1:dP (if s=true then w else { w with fly:=w.fly.eraseIdx (at_ % w.fly.length) })/\(l.tg= -1->TdA (if s=true then w else { w with fly:=w.fly.eraseIdx (at_ % w.fly.length) }) l.aZ):=by
  split
  ·exact ⟨h,h.fly l hm⟩
  exact ⟨⟨λk hk=>h.fly k (List.mem_of_mem_eraseIdx hk),h.aZ⟩,h.fly l hm⟩
 dsimp only
 split
 ·exact h1.1.come h1.2 (hb l hm)
 exact h1.1
theorem aam (w:Cl) (l:iJ):(w.come l).calls=w.calls/\(w.come l).aP=w.aP:=by
 unfold Cl.come
 split
 ·exact ⟨rfl,rfl⟩
 split
 ·split<;>exact ⟨rfl,rfl⟩
 split<;>exact ⟨rfl,rfl⟩
theorem dP.comes: ∀ (ls:List iJ) {w:Cl},dP w->(∀ l∈ls,lZ l/\(l.tg= -1->TdA w l.aZ))->dP (ls.foldl Cl.come w)
 | [],_,h,_=>h
 | l::r,w,h,hl=>by
  obtain ⟨h1,h2⟩:=hl l List.mem_cons_self;obtain ⟨e1,e2⟩:=aam w l;exact dP.comes r (h.come h2 h1) λk hk=>⟨(hl k (List.mem_cons_of_mem _ hk)).1,λe=>((hl k (List.mem_cons_of_mem _ hk)).2 e).mono (by rw [e1];exact Nat.le_refl _) (by rw [e2];exact λ_ h=>h)⟩
theorem dP.recovered {evs:List Ev} {an:List iH}: ∀ (ls:List Nat) {w:Cl},dP w->dP (w.recovered n q evs an ls)
 | [],_,h=>h
 | i::r,w,h=>by
  unfold Cl.recovered;exact dP.recovered r h.tell
theorem dP.recover (h:dP w):dP (w.recover n q):=by
 unfold Cl.recover
 split
 ·exact h.tell
 exact dP.recovered _ h
theorem dP.woken {bs:Nat->bI}: ∀ (ls:List Nat) {w:Cl},dP w->dP (Cl.woken n bs ls w)
 | [],_,h=>h
 | q::r,w,h=>by
  unfold Cl.woken
  split
  ·exact dP.woken r h
  exact dP.woken r (dP.tell (dP.cK h.recover))
theorem dP.act {T S D K:Nat} (h:dP m) (hC:aN cs m) (hB:fQ m T S D K) (ha:J6 ac):dP (m.act ac):=by
 obtain ⟨a1,a2,a3,a4,a5,a6⟩:=ha;unfold Cl.act
 split
 ·unfold Cl.make
  split
  ·exact h
  split
  ·exact h
  split
  ·exact h
  exact ⟨h.fly,h.aZ⟩
 split
 ·refine ⟨λk hk e=>?_,λk hk=>(h.aZ k hk).mono (Nat.le_succ _) λ_ h=>h⟩
  rcases List.mem_append.1 hk with hk | hk
  ·exact (h.fly k hk e).mono (Nat.le_succ _) λ_ h=>h
  rw [List.mem_singleton] at hk;subst hk;have h9:ac.nd= -1:=e;omega
 split
 ·exact h.step hC hB (by omega)
 split
 ·exact h.pick hB.wY
 split
 ·exact dP.comes m.fly ⟨λl hl=>(by cases hl),h.aZ⟩ λl hl=>⟨hB.wY l hl,h.fly l hl⟩
 split
 ·unfold Cl.crash
  split
  ·exact h.put
  exact h
 split
 ·unfold Cl.start
  split
  ·exact h
  split
  ·exact h
  exact dP.woken _ h.put
 unfold Cl.move
 split
 ·exact h
 split
 ·exact h.cK
 exact h
theorem dP.run: ∀ (l:List Ac) {cs:List Ac} {m:Cl} {k:Nat},dP m->aN cs m->Bs m k->(∀ a∈l,J6 a)->k+l.length<=100000->dP (m.run l)
 | [],_,_,_,h,_,_,_,_=>h
 | a::l,cs,m,k,h,hC,hB,ha,hk=>by
  rw [List.length_cons] at hk;have h1:=ha a List.mem_cons_self;exact dP.run l (h.act hC hB h1) (hC.act h1) (Si hB h1 (by omega)) (λx hx=>ha x (List.mem_cons_of_mem _ hx)) (by omega)
end
theorem RI (gs:List Gr) {m r:Nat} (h:m+6*r<=520) (cr:Bool):dP (zW.run (oI (eU gs m cr) r)):=by
 have:=Nj gs m cr r;exact dP.run _ ⟨λl hl=>(by cases hl),λt ht=>(by cases ht)⟩ Xe aj9 (λa ha=>Tt (Ap gs m cr r a ha)) (by omega)
theorem aan:flat Tryz.prog 30 58=some [.at_ (.int .i64),.at_ (.int .i64),.at_ (.int .i64),.at_ (.int .i64)]:=by kernel_rfl
theorem aao:Es Tryz.prog 30 58=true:=by kernel_rfl
theorem ad1 (xs:List Value):mkV Tryz.prog 58 xs= .agg xs.toArray:=by
 unfold mkV;rw [Tryz.underlying58]
theorem vR {a b:iH} {v:Bool} (h:decide (a.code=b.code/\a.dQ=b.dQ/\a.hno=b.hno/\a.body=b.body)=v) (w:World):(binOp .eql 58 (.agg #[.int .i64 a.code,.int .i64 a.dQ,.int .i64 a.hno,.int .i64 a.body]) (.agg #[.int .i64 b.code,.int .i64 b.dQ,.int .i64 b.hno,.int .i64 b.body])).run Tryz.prog w= .ok (.bool v) w:=by
 have h1:=vC (P:=Tryz.prog) w aan aao ad1 (xs:=[.int .i64 a.code,.int .i64 a.dQ,.int .i64 a.hno,.int .i64 a.body]) (ys:=[.int .i64 b.code,.int .i64 b.dQ,.int .i64 b.hno,.int .i64 b.body]) ⟨⟨_,rfl⟩,⟨_,rfl⟩,⟨_,rfl⟩,⟨_,rfl⟩,trivial⟩ ⟨⟨_,rfl⟩,⟨_,rfl⟩,⟨_,rfl⟩,⟨_,rfl⟩,trivial⟩;rw [show dW [.int .i64 a.code,.int .i64 a.dQ,.int .i64 a.hno,.int .i64 a.body] [.int .i64 b.code,.int .i64 b.dQ,.int .i64 b.hno,.int .i64 b.body]=v by rw [<-h];simp [dW,yh,Bool.decide_and];try rfl] at h1;exact h1
theorem zG {z:jA}: ∀ (j:Nat) (u:Value),[.int .i64 z.ans.code,.int .i64 z.ans.dQ,.int .i64 z.ans.hno,.int .i64 z.ans.body][j]? =some u->(jA.cells z)[9+j]? =some u
 | 0,_,h=>h
 | 1,_,h=>h
 | 2,_,h=>h
 | 3,_,h=>h
 | j+4,_,h=>by simp at h
theorem IZ: ∀ (l:List Ac) (n:Nat),(∀ a∈l,bF a=0)->jL l n=((((n+(l.filter jN).length:Nat)):Int),0)
 | [],n,_=>rfl
 | x::l,n,h=>by
  rw [jL,if_neg (λh1=>h1 (h x List.mem_cons_self)),List.filter_cons];by_cases e:x.kd=2
  ·rw [if_pos e,if_pos (by unfold jN;exact decide_eq_true e),IZ l (n+1) λa ha=>h a (List.mem_cons_of_mem _ ha),List.length_cons]
   congr 2
   omega
  rw [if_neg e,if_neg (by unfold jN;rw [decide_eq_false e];decide),IZ l n λa ha=>h a (List.mem_cons_of_mem _ ha)]
end
end Go.Proofs.YtnhimdkpkmbhlaaGreatDoor
