import Derived.Test.YtnhimdkpkmbhlaaGreatDoorG2607a
import Derived.Test.YtnhimdkpkmbhlaaGreatDoorG5c542
import Derived.Test.YtnhimdkpkmbhlaaGreatDoorG61455
set_option maxRecDepth 100000
set_option maxHeartbeats 8000000
set_option linter.unusedSimpArgs false
set_option linter.unusedVariables false
namespace Go.Proofs.YtnhimdkpkmbhlaaGreatDoor
section
open ChangeShapes WideShapes RowKit
theorem WE {K:CK} {B n kn kw:Nat} {w0 w:World} {fs:List Fact} {m:Cl} {H:List LX} (hn:n<5) (hkn:K.nb n=kn) (dx:K.wb=kw) (hu:Uk B w0) (hB1:m.fly.length<=1000000000) (hB2:m.aP.length<=900000000000) (HW:Wd K B w0 w fs m H) (hT:Dt (m.ah n).data (m.ah n).syn=some (vB (bL (m.ah n).data (m.ah n).syn))) (hvv: ∀ q,q<4->au (bL (m.ah n).data (m.ah n).syn q)=0) (hbz:(vk (jR (m.ah n).data (m.ah n).syn).1 (jR (m.ah n).data (m.ah n).syn).2.1).1.length*80<=reachBytes) (hmay: ∀ d,eT (jR (m.ah n).data (m.ah n).syn).2.1 (bL (m.ah n).data (m.ah n).syn) [0,1,2,3] (jR (m.ah n).data (m.ah n).syn).1=some d->dH d (jR (m.ah n).data (m.ah n).syn).2.1=true) (hsh: ∀ a b,0<=(m.shown a b).2):
    Calls tP 58 #[pV kw 0,pV kn 0] w (λe w'=>e= .returned (.tuple #[])/\Wd K B w0 w' fs (m.start n) H):=by
 obtain ⟨R,G,S0⟩:=HW.open hn;have hfl:R.fx.length=m.fly.length:=by rw [<-G.fly,List.length_map]
 have NG:=G.lJ n hn;obtain ⟨X,hX⟩: ∃ X,m.ah n=X:=⟨_,rfl⟩;obtain ⟨z,hz⟩: ∃ z,R.nx n=z:=⟨_,rfl⟩;rw [hX,hz] at S0 NG;have hL: ∀ f∈R.L,f∈gI K R m fs n:=λf h=>List.mem_append_right _ (List.mem_append_right _ h);obtain ⟨rr,hrr⟩: ∃ r,gI K R m fs n=r:=⟨_,rfl⟩;rw [hrr] at S0 hL;have S:St B w0 w (cN kn n X z z.pv (cF kw R m rr)):=by subst hkn;subst dx;exact S0
 clear S0 HW;have hlen:=(S.own 1 rfl).1;rw [gQ (sz:=6) (λ_=>rfl)] at hlen;have aDv:z.pv.oneCell'=true:=ahJ NG.qN;obtain ⟨P1,hP1⟩: ∃ r,jR X.data X.syn=r:=⟨_,rfl⟩;rw [hX] at hT hvv hbz hmay;have HRd:=λw h=>Jt z.tA z.tc X.data X.syn w h hT hbz;rw [hP1] at HRd hmay;refine gq 113 Tryz.func58 ?_;refine cw [0,1] ?_;refine zN 9 ?_
 cases hb1:(X.up)
 ·refine bq (l':=[(0,pV kw 0),(1,pV kn 0),(18,.bool false)]) ⟨rfl,rfl,rfl,trivial⟩ (lD rfl (qh (gK (aH (aC (vm ?_))))));refine zN 2 ?_;refine vv (aj rfl rfl (aA (cs:=[.slice z.tA X.data.length z.tc,iV X.syn]) Tryz.underlying116 rfl fG rfl (St.rg 0 S rfl (tH)))) ?_;refine dz asF (HRd _ (NG.yH.rd S (memT 7 rfl hL))) ?_;rintro _ w9 ⟨A2,c3,bB,bs,hbm,hbl,hbc,rfl,T8⟩;refine ⟨_,rfl,?_⟩;have qJ:=S.ext T8 (by simp [LB,Fact.Jw]);have tu:St B w0 w9 ((oB bB bs)::(.bI 1 A2 P1.1.length (byteCells P1.1))::(cN kn n X z z.pv (cF kw R m (rr++fF bs)))):=St.perm qJ (List.Perm.cons _ (List.Perm.cons _ (List.perm_append_comm (l₁:=fF bs))));clear S;refine zN 3 ?_;refine fJ tu zM ?_;intro b12 DU kD;refine stA 0 kD fG ?_;intro KI l6;refine zN 6 ?_;refine dz av3 (OU _ 4 4 (bs.flatMap BX.cells) _ (St.ord 1 l6 rfl) (alz _) (by decide)) ?_;rintro _ Gl ⟨MG,c18,rfl,aDw,aDx⟩;refine ⟨_,rfl,?_⟩;have iY:=l6.uV aDw aDx;obtain ⟨wB,hWA⟩:=Fa (iY.own 0 rfl) (by decide);subst hWA;refine zN 8 ?_;refine fJ iY awQ ?_;intro zS Ot jB;refine stA 0 jB ae4 ?_ (h1:=by exact axz rfl rfl rfl aDv);intro KD pE;refine zN 6 ?_;refine jL (row':=dO n X.up (.slice A2 P1.1.length c3) P1.2.1 (.slice (aD z.bb 0) 4 4) X.hints X.sure (.slice z.iA z.ix.length z.ic) (z.pv) X.turn) 0 pE fG ?_;intro Xa qR;refine zN 11 ?_;have oz:=qR.aU [2];have ni:St B w0 Xa (_::_::_::_::_::_::_::_::_::_::((rr++fF bs)++[.bI 1 A2 P1.1.length (byteCells P1.1)])):=oz.toEnd 3 rfl;have qC:=ni.eF [9,9,9,9,9,9,9];refine cZ (X:=Nat×(Option Addr)×Nat×(List UInt8)×(List BX)×(List Fact)) (λxv=>[(0,pV kw 0),(1,pV kn 0),(5,.slice (aD bB 0) 4 4),(6,.slice (aD wB 0) 4 c18),(7,pV zS 0),(34,.slice (aD bB 0) 4 4),(35,iV 4),(36,iV ((xv.1:Nat):Int))]) (λxv wr=>(xv.1<=4)/\(eT P1.2.1 (bL X.data X.syn) [0,1,2,3] P1.1=eT P1.2.1 (bL X.data X.syn) ((List.range 4).drop xv.1) xv.2.2.2.1)/\(xv.2.2.2.2.1.map BX.b=vB (λj=>if j<xv.1/\((bL X.data X.syn) j).role=1 then (fB ((bL X.data X.syn) j)).1 else (bL X.data X.syn) j))/\(∀ y∈xv.2.2.2.2.1,Co (fF bs++xv.2.2.2.2.2) y)/\(Ro xv.2.2.2.2.2 1 xv.2.1 xv.2.2.2.1.length (byteCells xv.2.2.2.1))/\St B w0 wr (cN kn n X z z.pv (cF kw R m ((bN zS n X.up xv.2.1 xv.2.2.2.1 xv.2.2.1 P1.2.1 z.bb X.hints X.sure z.iA z.ix z.ic z.pv X.turn)::(.own 73 6 (.slice (aD wB 0) 4 c18) 4 ((xv.2.2.2.2.1).flatMap BX.cells))::(oB bB bs)::((rr++fF bs)++xv.2.2.2.2.2))))) (λxv=>4-xv.1) (0,A2,c3,P1.1,bs,[.bI 1 A2 P1.1.length (byteCells P1.1)]) ?_ ?_ ?_
  ·exact ⟨Nat.zero_le _,rfl,(by rw [hbm];exact ar8),(λy hy=>(QK hbc y hy).mono λf hf=>List.mem_append_left _ hf),(Ro.bI (List.mem_singleton.2 rfl)),qC⟩
  ·exact ⟨rfl,rfl,rfl,rfl,rfl,rfl,rfl,rfl,trivial⟩
  rintro ⟨k,A9,c9,d9,ws,N9⟩ w33 ⟨adH,Np,Nq,Yq,Hz,mg⟩
  try dsimp only at adH Np Nq Yq Hz mg
  refine bq (l':=[(0,pV kw 0),(1,pV kn 0),(5,.slice (aD bB 0) 4 4),(6,.slice (aD wB 0) 4 c18),(7,pV zS 0),(34,.slice (aD bB 0) 4 4),(35,iV 4),(36,iV ((k:Nat):Int))]) ⟨rfl,rfl,rfl,rfl,rfl,rfl,rfl,rfl,trivial⟩ (aH (aC ?_));by_cases h40:((k:Nat):Int)<4
  ·refine zN 10 ?_;have hk4:k<4:=by omega
   obtain ⟨y,hy,hyV⟩:=Xy hbm hk4;have uE:=QK hbc y (List.mem_of_getElem? hy);obtain ⟨y0,hy0,_⟩:=Xy Nq hk4;have hlw:ws.length=4:=by have:=congrArg List.length Nq;simpa [vB] using this
   have hvk:=hvv k hk4;have hln:=kG (jG hvk);have zy:y.b.evs.length*48<=reachBytes:=by rw [hyV];unfold reachBytes;omega
   have Nj:=xV hvk;refine zN 2 ?_;refine vv (jI k) ?_;refine vv (aj rfl rfl (aA (cs:=BX.cells y) Tryz.underlying73 rfl aB rfl (Rd.uW (St.ord 9 mg rfl) (λ_ _ h=>aX (enc:=BX.cells) (sz:=6) (λ_=>rfl) hy h)))) ?_;refine fJ mg fV ?_;intro b41 Uw qB;refine zQ ?_;refine stA 0 qB aB ?_;intro Sn ou;refine zN 7 ?_;by_cases h46:y.b.role=1
   ·refine zN 7 ?_;obtain ⟨BR,qE⟩: ∃ r,fB y.b=r:=⟨_,rfl⟩;have HP:=λw h=>Zl y.b.role y.b.ep y.b.fr y.b.tg y.b.rd y.A y.c y.b.evs w h zy;rw [show fB ⟨y.b.role,y.b.ep,y.b.fr,y.b.tg,y.b.rd,y.b.evs⟩=BR from qE] at HP;refine zN 2 ?_;refine dz av4 (HP _ (uE.1.rd ou (memT 11 rfl (λf hf=>List.mem_append_left _ (List.mem_append_right _ hf))))) ?_;rintro _ Xf ⟨Oq,c48,axA,rfl,T52⟩;refine ⟨_,rfl,?_⟩;have uq:=ou.ext T52 rfl;refine zN 3 ?_;refine fJ uq fV ?_;intro b53 w54 u6;refine stA 0 u6 aB ?_;intro w56 rP;refine zN 7 ?_;refine cab JM rP (jq 2 k y _) ?_;intro w58 yB;refine fJ yB xR ?_;intro b61 w62 wJ;refine stA 0 wJ kQ ?_;intro w64 DY;refine zN 4 ?_;refine vv (v:= .agg #[iV 4,iV 0,iV 0,iV 0,iV 0,iV 0]) gF ?_;refine zQ ?_;refine jL (row':= #[iV 2,iV ((k:Nat):Int),iV y.b.ep,iV 0,iV 4,iV 0,iV 0,iV 0,iV 0,iV 0]) 0 DY iC ?_;intro Xd uZ;refine zN 4 ?_;by_cases hB:BR.2=0
    ·rcases aiX:eZ d9 P1.2.1 [fU 2 k y.b.ep 0 aS] with _ | aDy
     ·refine zN 5 ?_;refine je (V:=λb=> .slice (aD b 0) 1 1) (row:= #[iV 2,iV ((k:Nat):Int),iV y.b.ep,iV 0,iV 4,iV 0,iV 0,iV 0,iV 0,iV 0]) (t:=171) uZ (wg rfl rfl rfl rfl) rfl rfl (bg (vs:=[(0,.agg #[iV 2,iV ((k:Nat):Int),iV y.b.ep,iV 0,iV 4,iV 0,iV 0,iV 0,iV 0,iV 0])]) rfl ⟨rfl,rfl,trivial⟩ (by kernel_rfl)) ?_;intro b70 w71 AU;have uR:=AU.eF [12];refine yZ Hg (OV (rs:=[fU 2 k y.b.ep 0 aS]) aiX (Ro.blk (List.mem_iff_getElem?.2 ⟨0,rfl⟩) rfl rfl) Hz (by exact memT 14 rfl λf hf=>List.mem_append_right _ hf) (Nat.le_of_ble_eq_true rfl) uR) ?_;rintro _ w78 ⟨rfl,DN⟩;refine ⟨_,rfl,?_⟩;refine zN 13 ?_;have Cj:=DN.aU [14,13,5,4,3,2,1,0];have vT:=(Cj).SX.SX;have hr1:((bL X.data X.syn) k).role=1:=by rw [<-hyV];omega
      have rH:m.start n=m:=Vk hX (by assumption) (by rw [hP1,Np,ny hk4];exact ahL hr1 (by rw [<-hyV];exact aiX));rw [rH];exact ⟨rfl,Wd.dQ (X':=X) (z':=z) (Ls:=[]) (fA:=R.fA) (fc:=R.fc) (fx:=R.fx) (sA:=R.sA) (sc:=R.sc) (tA:=R.tA) (tc:=R.tc) hkn dx hrr G hn vT NG.more (λu hu=> .inl hu) (aL hX).symm G.fly.symm mI⟩
     refine zN 5 ?_;refine je (V:=λb=> .slice (aD b 0) 1 1) (row:= #[iV 2,iV ((k:Nat):Int),iV y.b.ep,iV 0,iV 4,iV 0,iV 0,iV 0,iV 0,iV 0]) (t:=171) uZ (wg rfl rfl rfl rfl) rfl rfl (bg (vs:=[(0,.agg #[iV 2,iV ((k:Nat):Int),iV y.b.ep,iV 0,iV 4,iV 0,iV 0,iV 0,iV 0,iV 0])]) rfl ⟨rfl,rfl,trivial⟩ (by kernel_rfl)) ?_;intro b82 w83 DW;have KJ:=DW.eF [12];refine yZ Hg (OW (rs:=[fU 2 k y.b.ep 0 aS]) aiX (Ro.blk (List.mem_iff_getElem?.2 ⟨0,rfl⟩) rfl rfl) Hz (by exact memT 14 rfl λf hf=>List.mem_append_right _ hf) (Nat.le_of_ble_eq_true rfl) KJ) ?_;rintro _ w90 ⟨A86,c87,N88,rfl,axB,KF⟩;refine ⟨_,rfl,?_⟩;refine zN 11 ?_;refine vv (jI k) ?_;refine lX (xs':=(ws.set k (⟨BR.1,Oq,c48⟩:BX)).flatMap BX.cells) 13 KF (wn rfl) rfl rfl rfl rfl rfl rfl aB rfl (bX rfl) (by omega) (by rw [Nat.zero_add];exact qM (enc:=BX.cells) (sz:=6) (λ_=>rfl) (⟨BR.1,Oq,c48⟩:BX) _ _ (by omega)) ?_;intro w92 BU;have aK8:(ws.set k (⟨BR.1,Oq,c48⟩:BX))[k]? =some (⟨BR.1,Oq,c48⟩:BX):=List.getElem?_set_self (by omega);refine zN 4 ?_;refine vv (v:=iV ((k+1:Nat):Int)) gu ?_;refine zN 2 ?_;have Jl:=BU.aU [5,3,2,1];have EC:St B w0 w92 (_::_::_::_::_::_::_::_::_::_::((((rr++fF bs)++N9)++N88)++[.bI 6 Oq BR.1.evs.length ((BR.1.evs).flatMap Ev.cells)])):=Jl.toEnd 1 rfl;have Ch:=EC.eF [7,7,7,7,7,7,7];have DZ:=Ch;have hr1:((bL X.data X.syn) k).role=1:=by rw [<-hyV];omega
     have hap:((((rr++fF bs)++N9)++N88)++[.bI 6 Oq BR.1.evs.length ((BR.1.evs).flatMap Ev.cells)])=((rr++fF bs)++(N9++(N88++[.bI 6 Oq BR.1.evs.length ((BR.1.evs).flatMap Ev.cells)]))):=by simp only [List.append_assoc]
     rw [hap] at DZ;refine aM (k+1,A86,c87,aDy,ws.set k (⟨BR.1,Oq,c48⟩:BX),N9++(N88++[.bI 6 Oq BR.1.evs.length ((BR.1.evs).flatMap Ev.cells)])) ?_ ⟨rfl,rfl,rfl,rfl,rfl,rfl,rfl,rfl,trivial⟩ (by first | omega | (dsimp only;omega));exact ⟨(by dsimp only;omega),(by dsimp only;rw [Np,ny hk4];exact adD hr1 (by rw [<-hyV,qE];exact hB) (by rw [<-hyV];exact aiX)),(by dsimp only;rw [List.map_set,Nq];exact adB hk4 hr1 (by rw [<-hyV,qE])),(EK (λu hu=>(Yq u hu).mono (λf hf=>(List.mem_append.1 hf).elim (λh=>List.mem_append_left _ h) λh=>List.mem_append_right _ (List.mem_append_left _ h))) ⟨Ro.bI (List.mem_append_right _ (List.mem_append_right _ (List.mem_append_right _ (List.mem_singleton.2 rfl)))),axA⟩),(axB.mono (λf hf=>(List.mem_append.1 hf).elim (λh=>List.mem_append_left _ h) λh=>List.mem_append_right _ (List.mem_append_left _ h))),DZ⟩
    refine zN 20 ?_;have S99:=uZ.aU [13,12,11,3,2,1,0];have tX:=(S99).SX.SX;have hr1:((bL X.data X.syn) k).role=1:=by rw [<-hyV];omega
    have rH:m.start n=m:=Vk hX (by assumption) (by rw [hP1,Np,ny hk4];exact ahK hr1 (by rw [<-hyV,qE];exact hB));rw [rH];exact ⟨rfl,Wd.dQ (X':=X) (z':=z) (Ls:=[]) (fA:=R.fA) (fc:=R.fc) (fx:=R.fx) (sA:=R.sA) (sc:=R.sc) (tA:=R.tA) (tc:=R.tc) hkn dx hrr G hn tX NG.more (λu hu=> .inl hu) (aL hX).symm G.fly.symm mI⟩
   refine zN 9 ?_;refine vv (v:=iV ((k+1:Nat):Int)) gu ?_;refine zN 2 ?_;have xw:=ou.aU [0];have uH:=xw;have hro: ¬ ((bL X.data X.syn) k).role=1:=by rw [<-hyV];assumption
   refine aM (k+1,A9,c9,d9,ws,N9) ?_ ⟨rfl,rfl,rfl,rfl,rfl,rfl,rfl,rfl,trivial⟩ (by first | omega | (dsimp only;omega));exact ⟨(by dsimp only;omega),(by dsimp only;rw [Np,ny hk4];exact adC hro),(by dsimp only;rw [Nq];exact adA hro),Yq,Hz,uH⟩
  refine zN 15 ?_;refine jL (row':=dO n true (.slice z.tA X.data.length z.tc) X.syn (.slice (aD z.bb 0) 4 4) X.hints X.sure (.slice z.iA z.ix.length z.ic) (z.pv) X.turn) 0 mg Hf ?_;intro aC2 zn;refine zN 5 ?_;refine dz TD (nI zn hu) ?_;rintro _ acy ⟨rfl,axC,zm⟩;refine ⟨_,rfl,?_⟩;have rQ:=zm.aU [3,2,1];refine zN 6 ?_;refine vv (aj rfl rfl (aA (cs:=[.slice A9 d9.length c9,iV P1.2.1]) Tryz.underlying116 rfl fG rfl (St.rg 5 rQ rfl (tH)))) ?_;have hwA:eT P1.2.1 (bL X.data X.syn) [0,1,2,3] P1.1=some d9:=by rw [Np,List.drop_eq_nil_of_le (by rw [List.length_range];omega)];rfl
  have GD:=λw h=>BI (oP A9 d9.length c9 d9 P1.2.1 w h);rw [yN (hmay _ hwA)] at GD;refine dz TF (GD _ (Hz.rd rQ (memT 8 rfl λf hf=>List.mem_append_right _ hf))) ?_;rintro _ acA ⟨QA,T9,rfl,aDz⟩;refine ⟨_,rfl,?_⟩;have xk:=rQ.ext aDz rfl;refine zN 5 ?_;refine jL (row':=dO n true (.slice QA d9.length T9) ((d9.length:Nat):Int) (.slice (aD axC 0) 4 4) (λ_=>nowhere) (λ_=>false) (.slice none 0 0) (.nilFunc) X.turn) 1 xk fG ?_;intro aiy pJ;refine zN 8 ?_;refine jL (row':=dO n true (.slice QA d9.length T9) ((d9.length:Nat):Int) (.slice (aD bB 0) 4 4) (λ_=>nowhere) (λ_=>false) (.slice none 0 0) (.nilFunc) X.turn) 1 pJ NZ ?_;intro auQ AJ;refine zN 10 ?_;have hwA:eT P1.2.1 (bL X.data X.syn) [0,1,2,3] P1.1=some d9:=by rw [Np,List.drop_eq_nil_of_le (by rw [List.length_range];omega)];rfl
  have aDA:k=4:=by omega
  have hsp:=Nq;rw [aDA] at hsp;have vC:=AJ.aU [6];have pK:=vC.C8 146 23;have qO:=(((((((((pK.bring 7 rfl).bring 2 rfl).bring 7 rfl).bring 7 rfl).bring 7 rfl).bring 7 rfl).bring 6 rfl).bring 8 rfl).bring 8 rfl);rw [show ((rr++fF bs)++N9)=(rr++(fF bs++N9)) from List.append_assoc ..] at qO;obtain ⟨m1,hm1⟩: ∃ k,k=m.put n { X.blank with up:=true,data:=d9,syn:=((d9.length:Nat):Int),bs:=(bL X.data X.syn) }:=⟨_,rfl⟩;have HW1:Wd K B w0 auQ ((.own 73 6 (.slice (aD wB 0) 4 c18) 4 ((ws).flatMap BX.cells))::fs) m1 (hwl ws++H):=by
   rw [hm1];refine Wd.fin (m:=m) (fs:=(.own 73 6 (.slice (aD wB 0) 4 c18) 4 ((ws).flatMap BX.cells))::fs) (X':={ X.blank with up:=true,data:=d9,syn:=((d9.length:Nat):Int),bs:=(bL X.data X.syn) }) (z':={ bb:=bB,tA:=QA,tc:=T9,bx:=bs,iA:=none,ic:=0,ix:=[],pv:= .nilFunc }) (N:=fF bs++N9) (Ls:=[.bI 1 QA d9.length (byteCells d9)]) (rr:=(.own 73 6 (.slice (aD wB 0) 4 c18) 4 ((ws).flatMap BX.cells))::rr) (H:=H) (fA:=R.fA) (fc:=R.fc) (fx:=R.fx) (sA:=R.sA) (sc:=R.sc) (tA:=R.tA) (tc:=R.tc) hkn dx (by rw [<-hrr];rfl) G hn qO ⟨hbm,λu hu=>(QK hbc u hu).mono (λf hf=>aDt hf),Ro.bI (tJ (List.mem_singleton.2 rfl)),rfl,λu hu=>by simp at hu,rfl⟩ (λu hu=> .inl hu) rfl G.fly.symm ?_;exact al1 λy hy=>(Yq y hy).mono λf hf=>aDu hf
  have hwo:=adE hwA;have au0:m1.ah n={ X.blank with up:=true,data:=d9,syn:=((d9.length:Nat):Int),bs:=(bL X.data X.syn) }:=by rw [hm1];exact bQ _
  refine cZ (X:=Nat×Cl) (λxv=>[(0,pV kw 0),(1,pV kn 0),(85,.slice (aD wB 0) 4 c18),(86,iV 4),(87,iV ((xv.1:Nat):Int))]) (λxv wr=>(Wd K B w0 wr ((.own 73 6 (.slice (aD wB 0) 4 c18) 4 ((ws).flatMap BX.cells))::fs) xv.2 (hwl ws++H))/\(Cl.woken n (bL X.data X.syn) [0,1,2,3] m1=Cl.woken n (bL X.data X.syn) ((List.range 4).drop xv.1) xv.2)/\(xv.1<=4)/\(xv.2.fly=m.fly)/\(∀ j,j<4->au ((xv.2.ah n).bs j)=0)/\(∀ j,xv.1<=j->j<4->(xv.2.ah n).bs j=(bL X.data X.syn) j)/\(∀ a b,0<=(xv.2.shown a b).2)/\(xv.2.aP.length<=m.aP.length+2001*xv.1)/\St B w0 wr [.own 73 6 (.slice (aD wB 0) 4 c18) 4 ((ws).flatMap BX.cells)]) (λxv=>4-xv.1) (0,m1) ?_ ?_ ?_
  ·exact ⟨HW1,rfl,Nat.zero_le _,by rw [hm1];rfl,λj hj=>by dsimp only;rw [au0];exact hvv j hj,λj _ _=>by dsimp only;rw [au0],λa b=>by dsimp only;rw [hm1];exact hsh a b,by dsimp only;rw [hm1];exact Nat.le_refl _,Wd.xK (gs:=[.own 73 6 (.slice (aD wB 0) 4 c18) 4 ((ws).flatMap BX.cells)]) HW1⟩
  ·exact ⟨rfl,rfl,rfl,rfl,rfl,trivial⟩
  rintro ⟨k2,mm⟩ acG ⟨aeH,Yr,axD,Yt,Oj,Yu,Yv,axE,Dq⟩
  try dsimp only at aeH Yr axD Yt Oj Yu Yv axE Dq
  refine bq (l':=[(0,pV kw 0),(1,pV kn 0),(85,.slice (aD wB 0) 4 c18),(86,iV 4),(87,iV ((k2:Nat):Int))]) ⟨rfl,rfl,rfl,rfl,rfl,trivial⟩ ?_;obtain ⟨R3,G3,Xz⟩:=aeH.open hn;have Vl:=G3.lJ n hn;obtain ⟨X3,Cy⟩: ∃ X,mm.ah n=X:=⟨_,rfl⟩;obtain ⟨z3,hz3⟩: ∃ z,R3.nx n=z:=⟨_,rfl⟩;rw [Cy,hz3] at Xz Vl;obtain ⟨rr3,Kk⟩: ∃ r,gI K R3 mm fs n=r:=⟨_,rfl⟩;have aK9:R3.fx.length=mm.fly.length:=by rw [<-G3.fly,List.length_map]
  have xu:St B w0 acG (cN kn n X3 z3 z3.pv (cF kw R3 mm ((.own 73 6 (.slice (aD wB 0) 4 c18) 4 ((ws).flatMap BX.cells))::rr3))):=by rw [<-Kk];subst hkn;subst dx;exact Xz
  clear Xz;have hlen3:=(xu.own 1 rfl).1;rw [gQ (sz:=6) (λ_=>rfl)] at hlen3;rw [Cy] at Oj Yu;refine zN 2 ?_;by_cases aLa:((k2:Nat):Int)<4
  ·refine zN 10 ?_;have hk4:k2<4:=by omega
   obtain ⟨x,hx,hxs⟩:=Xy hsp hk4;refine zN 2 ?_;refine vv (jI k2) ?_;refine vv (aj rfl rfl (aA (cs:=BX.cells x) Tryz.underlying73 rfl aB rfl (Rd.uW (St.ord 7 xu rfl) (λ_ _ h=>aX (enc:=BX.cells) (sz:=6) (λ_=>rfl) hx h)))) ?_;refine fJ xu fV ?_;intro apb atw Nh;refine zQ ?_;refine sa 0 Nh aB ?_;intro aci Fx;refine zN 7 ?_;by_cases aLb:x.b.role=1
   ·refine zN 11 ?_;have H9:=Fx.eF [7,7,7,7,7,7,7];have axF:=Wd.dQ (m:=mm) (m':=mm) (H:=hwl ws++H) (H':=hwl ws++H) (fs:=(.blk apb (bR x.b x.A x.c) 73)::(.own 73 6 (.slice (aD wB 0) 4 c18) 4 ((ws).flatMap BX.cells))::fs) (X':=X3) (z':=z3) (Ls:=[]) (fA:=R3.fA) (fc:=R3.fc) (fx:=R3.fx) (sA:=R3.sA) (sc:=R3.sc) (tA:=R3.tA) (tc:=R3.tc) (rr:=(.blk apb (bR x.b x.A x.c) 73)::(.own 73 6 (.slice (aD wB 0) 4 c18) 4 ((ws).flatMap BX.cells))::rr3) hkn dx (by rw [<-Kk];rfl) G3 hn H9 Vl.more (λu hu=> .inl hu) (aL Cy).symm G3.fly.symm mI;refine dz av5 (KO hn hkn dx hu (by rw [Yt];exact hB1) (by omega) hk4 axF (by rw [Cy];exact Oj) (Yv n k2)) ?_;rintro _ aDB ⟨rfl,anx⟩;refine ⟨_,rfl,?_⟩;have Py:=GI mm n k2 (Yv);have hrs:=(Gu (n:=n) (q:=k2) mm (by rw [Cy];exact kG (jG (Oj k2 hk4)))).2;obtain ⟨mc,hmc⟩: ∃ k,k=mm.recover n k2:=⟨_,rfl⟩;rw [<-hmc] at anx Py hrs;obtain ⟨R5,G5,S05⟩:=anx.open hn;have NG5:=G5.lJ n hn;obtain ⟨X5,hX5⟩: ∃ X,mc.ah n=X:=⟨_,rfl⟩;obtain ⟨z5,hz5⟩: ∃ z,R5.nx n=z:=⟨_,rfl⟩;rw [hX5,hz5] at S05 NG5;obtain ⟨rr5,au1⟩: ∃ r,gI K R5 mc fs n=r:=⟨_,rfl⟩;have aLc:R5.fx.length=mc.fly.length:=by rw [<-G5.fly,List.length_map]
    have XW:St B w0 aDB (cN kn n X5 z5 z5.pv (cF kw R5 mc ((.blk apb (bR x.b x.A x.c) 73)::(.own 73 6 (.slice (aD wB 0) 4 c18) 4 ((ws).flatMap BX.cells))::rr5))):=by rw [<-au1];subst hkn;subst dx;exact S05
    clear S05;have axG:=(XW.own 1 rfl).1;rw [gQ (sz:=6) (λ_=>rfl)] at axG;obtain ⟨y5,hy5,aLd,aLe⟩:=NG5.at_ hk4;refine zN 3 ?_;have Kl:=XW.drew;refine fH 8 6 Kl [] ?_;iterate 6 refine gW ?_
    refine eP (by kernel_rfl) rfl rfl rfl ?_;refine vv (jI k2) ?_;refine lX (xs':=(z5.bx.set k2 (⟨x.b,x.A,x.c⟩:BX)).flatMap BX.cells) 1 Kl (wn rfl) rfl rfl rfl rfl rfl rfl aB rfl (bX rfl) (by omega) (by rw [Nat.zero_add];exact qM (enc:=BX.cells) (sz:=6) (λ_=>rfl) (⟨x.b,x.A,x.c⟩:BX) _ _ (by omega)) ?_;intro au2 Fv;have hy153:(z5.bx.set k2 (⟨x.b,x.A,x.c⟩:BX))[k2]? =some (⟨x.b,x.A,x.c⟩:BX):=List.getElem?_set_self (by omega);refine zQ ?_;refine jk ?_;refine zN 5 ?_;refine vv (v:= .agg #[iV 4,iV 0,iV 0,iV 0,iV 0,iV 0]) gF ?_;refine zQ ?_;refine dz JB (nH hn hk4 hy153 aS eH (-1) Fv (by omega)) ?_;rintro _ au3 ⟨rfl,aDC,aDD,aHy,axH,Km⟩;refine ⟨_,rfl,?_⟩;subst axH;have JY:=Km.aU [7];have hr1:((bL X.data X.syn) k2).role=1:=ahN hxs (by omega);have hxb:x.b=iF ((bL X.data X.syn) k2):=by rw [hxs,if_pos ⟨hk4,hr1⟩,(hwo k2 hk4 hr1).2]
    obtain ⟨md,hmd⟩: ∃ k,k=(mc.aY n k2 x.b).tell n k2 aS eH (-1):=⟨_,rfl⟩;have aDE:md=((mm.recover n k2).aY n k2 (fB ((bL X.data X.syn) k2)).1).tell n k2 aS eH (-1):=by rw [hmd,hmc,hxb,(hwo k2 hk4 hr1).2]
    have adI:md={ mc.put n (X5.aY k2 x.b) with aP:=mc.aP++[⟨n,k2,x.b.ep,aS,eH,-1⟩],shown:=iB mc.shown n k2 (x.b.ep,(x.b.evs.length:Int)) }:=by rw [hmd];exact adF hX5
    have aDF:md.fly=mm.fly:=by rw [adI];exact Py.2.1
    have hnm:(mc.ah n)=X3:=by rw [Py.1,Cy]
    have au4:X5=X3:=by rw [<-hX5];exact hnm
    have au5:md.ah n=X5.aY k2 x.b:=by rw [adI];exact bQ _
    have aDG: ∀ j,j<4->au ((md.ah n).bs j)=0:=λj hj=>by rw [au5];exact al0 (by rw [au4];exact Oj) (by rw [hxb];exact (hwo k2 hk4 hr1).1) j hj
    have aDH: ∀ j,k2+1<=j->j<4->(md.ah n).bs j=(bL X.data X.syn) j:=λj h1 h2=>by rw [au5,au4];exact (upd_ne (by omega)).trans (Yu j (by omega) h2)
    have aDI: ∀ a b,0<=(md.shown a b).2:=by rw [adI];exact Kj (a:=n) (q:=k2) (e:=x.b.ep) (l:=x.b.evs) Py.2.2
    have aLf:md.aP.length=mc.aP.length+1:=by rw [adI];exact List.length_append ..
    clear hmd;have anz:Wd K B w0 au3 ((.own 73 6 (.slice (aD wB 0) 4 c18) 4 ((ws).flatMap BX.cells))::fs) md (hwl ws++H):=by
     rw [adI];exact Wd.dQ (m:=mc) (H:=hwl ws++H) (fs:=(.own 73 6 (.slice (aD wB 0) 4 c18) 4 ((ws).flatMap BX.cells))::fs) (X':=X5.aY k2 x.b) (z':={ z5 with bx:=z5.bx.set k2 (⟨x.b,x.A,x.c⟩:BX) }) (Ls:=[]) (fA:=R5.fA) (fc:=R5.fc) (fx:=R5.fx) (sA:=aDC) (sc:=aDD) (tA:=R5.tA) (tc:=R5.tc) (rr:=(.own 73 6 (.slice (aD wB 0) 4 c18) 4 ((ws).flatMap BX.cells))::rr5) hkn dx (by rw [<-au1];rfl) G5 hn JY (dV.anv (Y:=x) NG5.more hk4 (ar9 G5.hld hx).more) (λu hu=> .inl hu) rfl G5.fly.symm mI
    refine zN 4 ?_;refine vv (v:=iV ((k2+1:Nat):Int)) gu ?_;refine zN 2 ?_;refine aM (k2+1,md) ?_ ⟨rfl,rfl,rfl,rfl,rfl,trivial⟩ (by first | omega | (dsimp only;omega));exact ⟨anz,(by dsimp only;rw [Yr,ny hk4];exact ZK hr1 aDE),(by dsimp only;omega),(by dsimp only;rw [aDF];exact Yt),(by dsimp only;exact aDG),(by dsimp only;exact aDH),(by dsimp only;exact aDI),(by dsimp only;omega),(Wd.xK (gs:=[.own 73 6 (.slice (aD wB 0) 4 c18) 4 ((ws).flatMap BX.cells)]) anz)⟩
   refine zN 9 ?_;refine vv (v:=iV ((k2+1:Nat):Int)) gu ?_;refine zN 2 ?_;have Fw:=Fx.aU [0];have Yw:=Wd.dQ (m:=mm) (m':=mm) (H:=hwl ws++H) (H':=hwl ws++H) (fs:=(.own 73 6 (.slice (aD wB 0) 4 c18) 4 ((ws).flatMap BX.cells))::fs) (X':=X3) (z':=z3) (Ls:=[]) (fA:=R3.fA) (fc:=R3.fc) (fx:=R3.fx) (sA:=R3.sA) (sc:=R3.sc) (tA:=R3.tA) (tc:=R3.tc) (rr:=(.own 73 6 (.slice (aD wB 0) 4 c18) 4 ((ws).flatMap BX.cells))::rr3) hkn dx (by rw [<-Kk];rfl) G3 hn Fw Vl.more (λu hu=> .inl hu) (aL Cy).symm G3.fly.symm mI;have hro: ¬ ((bL X.data X.syn) k2).role=1:=ahM (hwo k2 hk4) hxs (by assumption);refine aM (k2+1,mm) ?_ ⟨rfl,rfl,rfl,rfl,rfl,trivial⟩ (by first | omega | (dsimp only;omega));exact ⟨Yw,(by dsimp only;rw [Yr,ny hk4];exact ZJ hro),(by dsimp only;omega),Yt,(by dsimp only;rw [Cy];exact Oj),(by dsimp only;rw [Cy];exact λj h1 h2=>Yu j (by omega) h2),Yv,(by dsimp only;omega),(Wd.xK (gs:=[.own 73 6 (.slice (aD wB 0) 4 c18) 4 ((ws).flatMap BX.cells)]) Yw)⟩
  refine zN 10 ?_;have rH:m.start n=mm:=by rw [adG hX (by assumption) (by rw [hP1];exact hwA),<-hm1,Yr,List.drop_eq_nil_of_le (by rw [List.length_range];omega)];rfl
  rw [rH];exact ⟨rfl,ahP (Wd.less (gs:=[.own 73 6 (.slice (aD wB 0) 4 c18) 4 ((ws).flatMap BX.cells)]) aeH)⟩
 refine bq (l':=[(0,pV kw 0),(1,pV kn 0),(18,.bool true)]) ⟨rfl,rfl,rfl,trivial⟩ (l8 rfl (om (iw (dU (rs:=[]) (vs:=[]) rfl trivial ?_))));have rH:m.start n=m:=ahO (by rw [hX];assumption);rw [rH];exact ⟨rfl,Wd.dQ (X':=X) (z':=z) (Ls:=[]) (fA:=R.fA) (fc:=R.fc) (fx:=R.fx) (sA:=R.sA) (sc:=R.sc) (tA:=R.tA) (tc:=R.tc) hkn dx hrr G hn S NG.more (λu hu=> .inl hu) (aL hX).symm G.fly.symm mI⟩
section
variable {X:Nd} {m:Cl} {n k q:Nat} {p:fP}
theorem Ih.mO (h:Ih X): ∀ q,q<4->au (X.bs q)=0:=by
 rcases h with ⟨_,rs,us,h⟩ | ⟨_,rs,t,f,h⟩
 ·exact h.mO
 exact h.bz
theorem Ih.tp (h:Ih X): ∃ rs t f,X.data=bH rs++t/\(firstM t).2=0/\iM rs f/\(∀ q,q<4->au (f q)=0)/\X.data.length<=100000/\0<=X.syn/\X.syn<=X.data.length:=by
 rcases h with ⟨_,rs,us,h⟩ | ⟨_,rs,t,f,h⟩
 ·have hd:=h.data;have hl:=congrArg List.length hd;rw [kL,List.length_append] at hl;have hs:=h.syn
  cases hp:X.pend with
  | none=>
   have hu:=h.pnn hp;refine ⟨rs,[],_,by rw [hd,hu,List.append_nil,List.append_nil],vo,h.tape,λq hq=>(Qs h.mO hq).1,h.len,by omega,by omega⟩
  | some p=>
   obtain ⟨h1,h2,h3⟩:=h.Xq p hp;obtain ⟨h4,h5⟩:=pR h.tape h.mO h2 h3;rw [<-h1] at h4;refine ⟨rs++us,[],_,by rw [hd,List.append_nil],vo,h4,λq hq=>?_,h.len,by omega,by omega⟩;refine vF ?_;by_cases e:q=p.q
   ·rw [e,upd_same];exact h5
   rw [upd_ne e];exact h.mO q hq
 exact ⟨rs,t,f,h.data,h.auf,h.tape,λq hq=>(h.mO q hq).1,h.len,h.syn.1,h.syn.2⟩
theorem Ih.may (h:Ih X):dH X.data X.syn=true:=by
 obtain ⟨rs,t,f,_,_,_,_,h1,h2,h3⟩:=h.tp;simp only [dH,Bool.and_eq_true,decide_eq_true_eq];exact ⟨⟨h1,h2⟩,h3⟩
theorem Ih.aDJ (h:Ih X) {rs:List dM} {d:List UInt8} (hw:eZ X.data X.syn rs=some d):dH d X.syn=true:=by
 obtain ⟨_,_,_,_,_,_,_,h1,h2,h3⟩:=h.tp;obtain ⟨w1,_,w3⟩:=tK hw;have:=w3 h1;have hl:=congrArg List.length w1;rw [List.length_append] at hl;simp only [dH,Bool.and_eq_true,decide_eq_true_eq];omega
theorem Ih.fit (h:Ih X) (hp:X.pend=some p):p.fit/\dH X.data X.syn=true:=by
 refine ⟨?_,h.may⟩
 rcases h with ⟨_,rs,us,h⟩ | ⟨_,rs,t,f,h⟩
 ·obtain ⟨h1,h2,h3⟩:=h.Xq p hp;obtain ⟨h4,h5⟩:=pR h.tape h.mO h2 h3
  cases p with
  | serve q evs op num a=>exact ⟨h3,kG h2.2.2.2⟩
  | begun q b=>exact h3
  | got q b last=>exact h3
  | iU q b at_=>exact ⟨h3,h5⟩
  | forget q b=>exact h3
 rw [h.qN] at hp;cases hp
theorem RD {s:Int} {f:Nat->bJ}: ∀ (ql:List Nat) {d d':List UInt8},eT s f ql d=some d'->d.length<=d'.length/\(d.length<=100000->d'.length<=100000)
 | [],d,d',h=>by cases h;exact ⟨Nat.le_refl _,id⟩
 | q::r,d,d',h=>by
  rw [eT] at h
  split at h
  ·exact RD r h
  split at h
  ·cases h
  split at h
  ·cases h
  rename_i d2 hw
  obtain ⟨w1,_,w3⟩:=tK hw;obtain ⟨h1,h2⟩:=RD r h;rw [w1,List.length_append] at h1;exact ⟨by omega,λh0=>h2 (w3 h0)⟩
theorem aa2: ∀ (rs:List dM),6*rs.length<=(bH rs).length
 | []=>by simp [bH]
 | r::rs=>by
  have h1:=(AV r).1;have h2:=aa2 rs;have e:bH (r::rs)=mo r++bH rs:=by simp [bH,List.flatMap_cons]
  rw [e,List.length_append,List.length_cons];omega
theorem Ih.JF (h:Ih X):Dt X.data X.syn=some (vB (bL X.data X.syn))/\(∀ q,q<4->au (bL X.data X.syn q)=0)/\(vk (jR X.data X.syn).1 (jR X.data X.syn).2.1).1.length*80<=reachBytes/\
  (∀ d,eT (jR X.data X.syn).2.1 (bL X.data X.syn) [0,1,2,3] (jR X.data X.syn).1=some d->dH d (jR X.data X.syn).2.1=true):=by
 obtain ⟨rs,t,f,hd,ht,hT,hb,h1,h2,h3⟩:=h.tp;obtain ⟨r1,r2,r3⟩:=hT.read hd ht h1 h2 h3;have hl:(bH rs).length<=X.data.length:=by rw [hd,List.length_append];omega
 have hg:=aa2 rs;refine ⟨by rw [r2,Bc λq hq=>(r3 q hq).symm],λq hq=>by rw [r3 q hq];exact hb q hq,?_,λd hw=>?_⟩
 ·rw [r1];unfold vk;rw [if_pos (by simp [dH];omega)];have:=zi (t:=[]) hT.1 vo;rw [List.append_nil] at this;dsimp only;rw [this];unfold reachBytes;dsimp only;omega
 rw [r1] at hw⊢;obtain ⟨g1,g2⟩:=RD _ hw;dsimp only at g1 g2 hw⊢;have g3:=g2 (by omega);simp only [dH,Bool.and_eq_true,decide_eq_true_eq];omega
theorem mM.tgt {l:iD} (h:mM l): ∃ j,j<5/\(l.tg= -1\/l.tg= -2\/l.tg=((j:Nat):Int)):=by
 obtain ⟨_,_,h1 | h1 | h1,_⟩:=h
 ·exact ⟨0,by omega,.inl h1⟩
 ·exact ⟨0,by omega,.inr (.inl h1.1)⟩
 exact ⟨l.tg.toNat,by omega,.inr (.inr (by omega))⟩
theorem fK.fl {T S D K:Nat} (h:fK m T S D K):m.fly.length<=T:=by
 have:=Qv m (n:=0) (by omega);have:=h.room;omega
theorem fK.il {T S D K:Nat} (h:fK m T S D K) (hn:n<5):(m.ah n).inbox.length<=T:=by
 have:=Qv m hn;have:=h.room;omega
theorem fK.fi {T S D K:Nat} (h:fK m T S D K) (hn:n<5):m.fly.length+(m.ah n).inbox.length<=T:=by
 have:=Qv m hn;have:=h.room;omega
end
def ShN (m:Cl):Prop:= ∀ a b,0<=(m.shown a b).2
section
variable {m m':Cl} {n q:Nat} {l:iD}
theorem ShN.of (h:ShN m) (e:m'.shown=m.shown):ShN m':=λa b=>by rw [e];exact h a b
theorem ShN.tell {e:Ev} {a:iT} {u:Int} (h:ShN m):ShN (m.tell n q e a u):=Kj h
theorem ShN.done {op:Ev} {u:Int} {a:iT} (h:ShN m):ShN (m.done n q op u a):=by
 unfold Cl.done
 split
 ·exact (h.tell (n:=n) (q:=q) (e:=op) (a:=a) (u:=u)).of rfl
 exact h.of rfl
theorem ShN.part {a:Int} (h:ShN m):ShN (m.part n q a):=by
 unfold Cl.part
 split
 ·exact h
 exact h.of rfl
theorem ShN.serve (h:ShN m):ShN (m.serve n l):=by
 unfold Cl.serve
 split
 ·exact h.done
 split
 ·exact h.done
 exact h.of rfl
theorem ShN.handle (h:ShN m):ShN (m.handle n l):=by
 unfold Cl.handle
 split
 ·exact h.serve
 split
 ·unfold Cl.offered
  split
  ·exact h
  split
  ·exact h.of rfl
  split
  ·exact h
  exact h.of rfl
 split
 ·unfold Cl.caught
  split
  ·exact h
  split
  ·exact h
  split
  ·exact ShN.part (h.of rfl)
  split
  ·exact h
  exact h.of rfl
 split
 ·unfold Cl.got
  split
  ·exact h
  split
  ·exact h.of rfl
  split
  ·exact h
  split
  ·exact h
  exact h.of rfl
 unfold Cl.learnt
 split
 ·exact h.of rfl
 split
 ·exact h.of rfl
 exact h.of rfl
theorem ShN.drain: ∀ (ls:List iD) {m:Cl},ShN m->ShN (Cl.drain n ls m)
 | [],m,h=>h
 | l::r,m,h=>by
  rw [Cl.drain];have h1:ShN ((m.put n { m.ah n with inbox:=r }).handle n l):=ShN.handle (h.of rfl)
  split
  ·exact ShN.drain r h1
  exact h1
theorem ShN.uS {p:fP} (h:ShN m):ShN (m.uS n p):=by
 cases p with
 | serve q evs op num a=>exact ShN.done (h.of rfl)
 | begun q b=>exact h.of rfl
 | got q b last=>
  unfold Cl.uS;dsimp only
  split
  ·exact ShN.tell (h.of rfl)
  exact h.of rfl
 | iU q b a=>exact ShN.part (h.of rfl)
 | forget q b=>exact h.of rfl
theorem ShN.step (h:ShN m):ShN (m.step n):=by
 unfold Cl.step
 split
 ·exact h
 split
 ·exact ShN.uS (h.of rfl)
 split
 ·exact (h.drain _).of rfl
 exact h.drain _
theorem ShN.come (h:ShN m):ShN (m.come l):=by
 unfold Cl.come
 split
 ·exact h.of rfl
 split
 ·split<;>exact h.of rfl
 split
 ·exact h.of rfl
 exact h
theorem ShN.comes: ∀ (ls:List iD) {m:Cl},ShN m->ShN (ls.foldl Cl.come m)
 | [],_,h=>h
 | _::ls,_,h=>ShN.comes ls h.come
theorem ShN.recover (h:ShN m):ShN (m.recover n q):=(GI m n q h).2.2
theorem ShN.woken {bs:Nat->bJ}: ∀ (ql:List Nat) {m:Cl},ShN m->ShN (Cl.woken n bs ql m)
 | [],_,h=>h
 | q::r,m,h=>by
  rw [Cl.woken]
  split
  ·exact ShN.woken r h
  exact ShN.woken r (ShN.tell ((h.recover (n:=n) (q:=q)).of rfl))
theorem ShN.act {a:Ac} (h:ShN m):ShN (m.act a):=by
 unfold Cl.act
 split
 ·unfold Cl.make
  split
  ·exact h
  split
  ·exact h
  split
  ·exact h
  exact Kj (l:=[]) h
 split
 ·exact h.of rfl
 split
 ·exact h.step
 split
 ·unfold Cl.pick
  split
  ·exact h
  dsimp only
  split
  ·refine ShN.come ?_
   split
   ·exact h
   exact h.of rfl
  split
  ·exact h
  exact h.of rfl
 split
 ·exact ShN.comes _ (h.of rfl)
 split
 ·unfold Cl.crash
  split
  ·exact h.of rfl
  exact h
 split
 ·unfold Cl.start
  split
  ·exact h
  split
  ·exact h
  exact ShN.woken _ (h.of rfl)
 unfold Cl.move
 split
 ·exact h
 split
 ·exact h.of rfl
 exact h
end
section
variable {m:Cl} {n:Nat} {X:Nd} {l:iD} {PW:Pl×Int}
theorem ahQ (h:l.tg= -1):m.come l={ m with bM:=m.bM++[l.bM] }:=if_pos h
theorem sP (h:l.tg= -2) (hP:bD (fu m.off l) l.q=PW) (h2:PW.2=0):m.come l={ m with off:=fu m.off l,fly:=m.fly++[oD l.fr l.q PW.1] }:=by
 unfold Cl.come;rw [if_neg (by omega),if_pos h,hP,if_pos h2]
theorem sS (h:l.tg= -2) (hP:bD (fu m.off l) l.q=PW) (h2: ¬ PW.2=0):m.come l={ m with off:=fu m.off l }:=by
 unfold Cl.come;rw [if_neg (by omega),if_pos h,hP,if_neg h2]
theorem adJ (h:l.tg=((n:Nat):Int)) (hX:m.ah n=X) (hu:X.up=true):m.come l=m.put n (X.box (X.inbox++[l])):=by
 subst hX;unfold Cl.come;rw [if_neg (by omega),if_neg (by omega),h,Int.toNat_natCast,if_pos hu];rfl
theorem adK (h:l.tg=((n:Nat):Int)) (hX:m.ah n=X) (hu:X.up=false):m.come l=m:=by
 subst hX;unfold Cl.come;rw [if_neg (by omega),if_neg (by omega),h,Int.toNat_natCast,if_neg (by rw [hu];simp)]
theorem dV.axI {K:CK} {L:List Fact} {c:Nat} {z:NX} {A:Option Addr} {x:LX} (h:dV K L n X z) (hx:SS L x):dV K L n (X.box (X.inbox++[x.l])) { z with iA:=A,ic:=c,ix:=z.ix++[x] }:=
 ⟨h.SV,h.U4,h.yH,by rw [List.map_append,h.ixm];rfl,λu hu=>(List.mem_append.1 hu).elim (h.ixo u) λe=>by rw [List.mem_singleton] at e;subst e;exact hx,h.qN⟩
end
theorem Ef {K:CK} {B n kn kw:Nat} {w0 w:World} {fs:List Fact} {m:Cl} {H:List LX} {x:LX} (hn:n<5) (hkn:K.nb n=kn) (dx:K.wb=kw) (hu:Uk B w0) (hB1:m.fly.length<=1000000000) (hB2:m.bM.length<=1000000000000) (hB3:(m.ah n).inbox.length<=1000000000) (HW:Wd K B w0 w fs m (x::H)) (qX:x.l.tg= -1\/x.l.tg= -2\/x.l.tg=((n:Nat):Int)):
    Calls Tryz.prog 56 #[.pointer (some ⟨kw,0,none⟩),.agg (LX.row x)] w (λe w'=>e= .returned (.tuple #[])/\Wd K B w0 w' fs (m.come x.l) H):=by
 obtain ⟨R,G,S0⟩:=HW.open hn;have hfl:R.fx.length=m.fly.length:=by rw [<-G.fly,List.length_map]
 have NG:=G.lJ n hn;obtain ⟨X,hX⟩: ∃ X,m.ah n=X:=⟨_,rfl⟩;obtain ⟨z,hz⟩: ∃ z,R.nx n=z:=⟨_,rfl⟩;rw [hX,hz] at S0 NG;have hL: ∀ f∈R.L,f∈gI K R m fs n:=λf h=>List.mem_append_right _ (List.mem_append_right _ h);obtain ⟨rr,hrr⟩: ∃ r,gI K R m fs n=r:=⟨_,rfl⟩;rw [hrr] at S0 hL;have S:St B w0 w ((.blk kn (dO n X.up (.slice z.tA X.data.length z.tc) X.syn (.slice (some ⟨z.bb,0,none⟩) 4 4) X.hints X.sure (.slice z.iA z.ix.length z.ic) (z.pv) X.turn) 120)::(.own 73 6 (.slice (some ⟨z.bb,0,none⟩) 4 4) 4 ((z.bx).flatMap BX.cells))::(fL z.iA z.ix z.ic)::(bW kw (.slice R.nA 5 R.nc) m.off R.fA R.fx R.fc m.shown R.sA m.aP R.sc R.tA m.bM R.tc m.calls)::(oL R.fA R.fx R.fc)::(oS R.sA m.aP R.sc)::(oT R.tA m.bM R.tc)::rr):=by subst hkn;subst dx;exact S0
 clear S0 HW;have hlen:=(S.own 1 rfl).1;rw [gQ (sz:=6) (λ_=>rfl)] at hlen;obtain ⟨ab,ao,qZ⟩:=Cw G.arr S (memT 7 rfl hL);have harr:=G.arr;rw [qZ] at S harr;have aLg:z.ix.length<=1000000000:=by have:=congrArg List.length NG.ixm;rw [List.length_map] at this;rw [hX] at hB3;omega
 refine gq 106 Tryz.func56 ?_;refine cw [0,1] ?_;refine zN 2 ?_;refine iP S ?_;intro b1 w2 S3;refine zN 4 ?_
 rcases qX with qX | qX | qX
 ·refine zN 8 ?_;have S4:=S3.drew;refine fH 14 10 S4 [7] ?_;iterate 5 refine gW ?_
  refine gk (v:= .slice R.tA m.bM.length R.tc) 5 rfl (St.del 7 S4) (λ_ aDK=>(aj rfl rfl (av Tryz.underlying33 rfl (St.cl 4 aDK rfl aw7)))) ?_;refine gW ?_;refine gk (v:= .agg #[iV x.l.bM.num,iV x.l.bM.ans.code,iV x.l.bM.ans.dK,iV x.l.bM.ans.hno,iV x.l.bM.ans.body,iV x.l.bM.pl.node,iV x.l.bM.pl.epoch]) 7 rfl (St.del 7 S4) (λ_ apc=>(aj rfl rfl (aA (cs:=[iV x.l.bM.num,iV x.l.bM.ans.code,iV x.l.bM.ans.dK,iV x.l.bM.ans.hno,iV x.l.bM.ans.body,iV x.l.bM.pl.node,iV x.l.bM.pl.epoch]) Tryz.underlying81 rfl ael rfl (St.rg 0 apc rfl (arK))))) ?_;refine fq (m:=5) (r:=8) (by kernel_rfl) ?_;refine mF (i:=8) rfl rfl (V:=λb=> .slice (some ⟨b,0,none⟩) 1 1) (row:= #[iV x.l.bM.num,iV x.l.bM.ans.code,iV x.l.bM.ans.dK,iV x.l.bM.ans.hno,iV x.l.bM.ans.body,iV x.l.bM.pl.node,iV x.l.bM.pl.epoch]) (t:=81) S4 (wn rfl) rfl rfl (bg (vs:=[(0,.agg #[iV x.l.bM.num,iV x.l.bM.ans.code,iV x.l.bM.ans.dK,iV x.l.bM.ans.hno,iV x.l.bM.ans.body,iV x.l.bM.pl.node,iV x.l.bM.pl.epoch])]) rfl ⟨rfl,rfl,trivial⟩ (by kernel_rfl)) ?_;intro b13 MB iH;refine gW ?_;refine fq (m:=4) (r:=9) (by kernel_rfl) ?_;refine lG (i:=9) rfl rfl (news:=[iV x.l.bM.num,iV x.l.bM.ans.code,iV x.l.bM.ans.dK,iV x.l.bM.ans.hno,iV x.l.bM.ans.body,iV x.l.bM.pl.node,iV x.l.bM.pl.epoch]) (xs':=(m.bM++[x.l.bM]).flatMap xI.cells) 8 iH (wn rfl) rfl rfl rfl rfl rfl rfl (St.lM (xs:=[iV x.l.bM.num,iV x.l.bM.ans.code,iV x.l.bM.ans.dK,iV x.l.bM.ans.hno,iV x.l.bM.ans.body,iV x.l.bM.pl.node,iV x.l.bM.pl.epoch]) 0 iH rfl rfl rfl) Tryz.underlying33 aqA rfl (by decide) (bX rfl) (by simp only [maxLen];omega) (by omega) (iJ (enc:=xI.cells) rfl rfl) ?_;intro A16 c17 DK aoC aoD jU;refine gW ?_;refine eP (by kernel_rfl) rfl rfl rfl ?_;refine zN 3 ?_;refine jL 5 jU amE ?_ (hs:=by exact aw9);intro w22 nP;refine zQ ?_;refine jk ?_;refine cK (l':=[]) trivial (iE (bC (rs:=[]) (vs:=[]) rfl trivial ?_));have jS:=nP.aU [1,0];rw [<-qZ] at jS;have XA:m.bM.length+1=(m.bM++[x.l.bM]).length:=by simp
  rw [XA] at jS;rw [ahQ qX];exact ⟨rfl,Wd.dQ (X':=X) (z':=z) (Ls:=[]) (fA:=R.fA) (fc:=R.fc) (fx:=R.fx) (sA:=R.sA) (sc:=R.sc) (tA:=A16) (tc:=c17) hkn dx hrr G hn jS NG.more (λu hu=> .inl hu) (aL hX).symm G.fly.symm mH⟩
 ·refine zN 22 ?_;by_cases vD:0<=x.l.nd
  ·refine zN 4 ?_;obtain ⟨FD,KP⟩: ∃ r,Bj m.off x.l.q x.l.ep x.l.nd=r:=⟨_,rfl⟩;have HF:=λw h=>YT m.off x.l.q x.l.ep x.l.nd w h;rw [KP] at HF;refine zQ ?_;have kJ:=S3.drew;refine aN 17 kJ [] ?_;refine aO 3 ?_;refine ak (v:= .agg ((m.off.cells).toArray)) 3 rfl kJ (λ_ acU=>(aj rfl rfl (aA (cs:=(m.off.cells)) Tryz.underlying30 rfl p9 rfl (St.rg 4 acU rfl (yG))))) ?_;refine aO 6 ?_;refine gM (n:=6) (r:=10) (s:=14) (by kernel_rfl) ?_ ?_
   ·refine jw 10 rfl amG (HF _ (Uk.nw hu kJ)) ?_;rintro _ Xg ⟨rfl,aDL⟩;refine ⟨_,rfl,?_⟩;have qU:=kJ.on aDL;refine aO 4 ?_;refine aZ 14 ?_;refine lg 14 rfl qU aip ?_;intro b43 Sn ou;refine dn ?_;refine aZ 15 ?_;refine snA 15 rfl 0 ou p9 ?_ (h1:=wO _);intro Xi wW;refine aO 3 ?_;refine zN 4 ?_;by_cases h49:FD.2=0
    ·refine zN 9 ?_;refine jL 5 wW p9 ?_ (h1:=wO _) (hs:=by exact aoF);intro Xf uq;refine zN 2 ?_;obtain ⟨PW,wR⟩: ∃ r,bD FD.1 x.l.q=r:=⟨_,rfl⟩;have HQ:=λw h=>nD FD.1 x.l.q w h;rw [wR] at HQ;refine zQ ?_;have kS:=uq.drew;refine aN 13 kS [] ?_;refine aO 3 ?_;refine ak (v:= .agg (((FD.1).cells).toArray)) 3 rfl kS (λ_ TW=>(aj rfl rfl (aA (cs:=((FD.1).cells)) Tryz.underlying30 rfl p9 rfl (St.rg 5 TW rfl (yG))))) ?_;refine aO 2 ?_;refine gM (n:=6) (r:=6) (s:=10) (by kernel_rfl) ?_ ?_
     ·refine jw 6 rfl zK (HQ _ (Uk.nw hu kS)) ?_;rintro _ w59 ⟨rfl,aDM⟩;refine ⟨_,rfl,?_⟩;have Xh:=kS.on aDM;refine aO 4 ?_;refine aZ 10 ?_;refine lg 10 rfl Xh Hl ?_;intro b65 Xd uZ;refine dn ?_;refine aZ 11 ?_;refine sn 11 rfl 0 uZ jD ?_;intro w68 u7;refine aO 3 ?_;refine zN 4 ?_;by_cases h71:PW.2=0
      ·refine zN 14 ?_;refine vv (v:= .agg #[iV 6,iV (-2),iV x.l.fr,iV ((x.l.q:Nat):Int),iV PW.1.epoch,iV 0,iV PW.1.node,iV 0,iV 0,iV 0,iV 0,iV 0,iV 0,.slice none 0 0,.bool false,iV 0,iV 0,iV 0,iV 0,iV 0,iV 0,iV 0,iV 0]) gF ?_;have AU:=u7.eF [7,7];refine dz yY (gY (x:=⟨oD x.l.fr x.l.q PW.1,none,0⟩) AU (by omega)) ?_;rintro _ w77 ⟨rfl,A73,c74,aDN,au6,Ib⟩;refine ⟨_,rfl,?_⟩;refine zQ ?_;refine cK (l':=[]) trivial (iE (bC (rs:=[]) (vs:=[]) rfl trivial ?_));have DN:=Ib.aU [4,3,2];have Cj:=DN.eF [6,6,3,3,6,6,6];rw [<-qZ] at Cj;have lK:fu m.off x.l=FD.1:=by
        unfold fu;rw [KP,if_pos (by omega)]
       rw [sP (PW:=PW) qX (by rw [lK];exact wR) (by assumption),lK];exact ⟨rfl,Wd.dQ (X':=X) (z':=z) (Ls:=[]) (fA:=A73) (fc:=c74) (fx:=aDN) (sA:=R.sA) (sc:=R.sc) (tA:=R.tA) (tc:=R.tc) hkn dx hrr G hn Cj NG.more (by rw [au6];exact oM (jh rfl)) (aL hX).symm (by rw [au6,List.map_append,G.fly];rfl) mH⟩
      refine zN 7 ?_;have vT:=u7.aU [2,1,0];rw [<-qZ] at vT;have lK:fu m.off x.l=FD.1:=by
       unfold fu;rw [KP,if_pos (by omega)]
      rw [sS (PW:=PW) qX (by rw [lK];exact wR) (by assumption),lK];exact ⟨rfl,Wd.dQ (X':=X) (z':=z) (Ls:=[]) (fA:=R.fA) (fc:=R.fc) (fx:=R.fx) (sA:=R.sA) (sc:=R.sc) (tA:=R.tA) (tc:=R.tc) hkn dx hrr G hn vT NG.more (λu hu=> .inl hu) (aL hX).symm G.fly.symm mH⟩
     refine lg 10 rfl kS Hl ?_;intro b82 w83 DW;refine dn ?_;refine aZ 6 ?_;refine jw 6 rfl zK (HQ _ (Uk.nw hu DW)) ?_;rintro _ w85 ⟨rfl,at0⟩;refine ⟨_,rfl,?_⟩;have Cm:=DW.on at0;refine aO 4 ?_;refine aZ 11 ?_;refine sn 11 rfl 0 Cm jD ?_;intro w91 zP;refine aO 3 ?_;refine zN 4 ?_;by_cases h94:PW.2=0
     ·refine zN 14 ?_;refine vv (v:= .agg #[iV 6,iV (-2),iV x.l.fr,iV ((x.l.q:Nat):Int),iV PW.1.epoch,iV 0,iV PW.1.node,iV 0,iV 0,iV 0,iV 0,iV 0,iV 0,.slice none 0 0,.bool false,iV 0,iV 0,iV 0,iV 0,iV 0,iV 0,iV 0,iV 0]) gF ?_;have Jl:=zP.eF [7,7];refine dz yY (gY (x:=⟨oD x.l.fr x.l.q PW.1,none,0⟩) Jl (by omega)) ?_;rintro _ aiF ⟨rfl,A96,c97,aDO,au7,xw⟩;refine ⟨_,rfl,?_⟩;refine zQ ?_;refine cK (l':=[]) trivial (iE (bC (rs:=[]) (vs:=[]) rfl trivial ?_));have uH:=xw.aU [4,3,2];have qx:=uH.eF [6,6,3,3,6,6,6];rw [<-qZ] at qx;have lK:fu m.off x.l=FD.1:=by
       unfold fu;rw [KP,if_pos (by omega)]
      rw [sP (PW:=PW) qX (by rw [lK];exact wR) (by assumption),lK];exact ⟨rfl,Wd.dQ (X':=X) (z':=z) (Ls:=[]) (fA:=A96) (fc:=c97) (fx:=aDO) (sA:=R.sA) (sc:=R.sc) (tA:=R.tA) (tc:=R.tc) hkn dx hrr G hn qx NG.more (by rw [au7];exact oM (jh rfl)) (aL hX).symm (by rw [au7,List.map_append,G.fly];rfl) mH⟩
     refine zN 7 ?_;have zn:=zP.aU [2,1,0];rw [<-qZ] at zn;have lK:fu m.off x.l=FD.1:=by
      unfold fu;rw [KP,if_pos (by omega)]
     rw [sS (PW:=PW) qX (by rw [lK];exact wR) (by assumption),lK];exact ⟨rfl,Wd.dQ (X':=X) (z':=z) (Ls:=[]) (fA:=R.fA) (fc:=R.fc) (fx:=R.fx) (sA:=R.sA) (sc:=R.sc) (tA:=R.tA) (tc:=R.tc) hkn dx hrr G hn zn NG.more (λu hu=> .inl hu) (aL hX).symm G.fly.symm mH⟩
    refine zN 6 ?_;obtain ⟨PW,wR⟩: ∃ r,bD m.off x.l.q=r:=⟨_,rfl⟩;have HQ:=λw h=>nD m.off x.l.q w h;rw [wR] at HQ;refine mE (X:=Nat) (λxv=>[(0,.pointer (some ⟨kw,0,none⟩)),(3,.pointer (some ⟨b1,0,none⟩)),(6,.pointer (some ⟨xv,0,none⟩)),(7,iV PW.2)]) (λxv wr=>St B w0 wr ((.blk xv #[iV PW.1.node,iV PW.1.epoch] 27)::(.blk b43 (((FD.1).cells).toArray) 30)::(.blk b1 (LX.row x) 146)::(.blk kn (dO n X.up (.slice z.tA X.data.length z.tc) X.syn (.slice (some ⟨z.bb,0,none⟩) 4 4) X.hints X.sure (.slice z.iA z.ix.length z.ic) (z.pv) X.turn) 120)::(.own 73 6 (.slice (some ⟨z.bb,0,none⟩) 4 4) 4 ((z.bx).flatMap BX.cells))::(fL z.iA z.ix z.ic)::(bW kw (.slice (some ⟨ab,ao,none⟩) 5 R.nc) m.off R.fA R.fx R.fc m.shown R.sA m.aP R.sc R.tA m.bM R.tc m.calls)::(oL R.fA R.fx R.fc)::(oS R.sA m.aP R.sc)::(oT R.tA m.bM R.tc)::rr)) ?_ ?_
    ·have tY:=wW.drew;refine aN 13 tY [] ?_;refine aO 3 ?_;refine ak (v:= .agg ((m.off.cells).toArray)) 3 rfl tY (λ_ axJ=>(aj rfl rfl (aA (cs:=(m.off.cells)) Tryz.underlying30 rfl p9 rfl (St.rg 5 axJ rfl (yG))))) ?_;refine aO 2 ?_;refine gM (n:=6) (r:=6) (s:=10) (by kernel_rfl) ?_ ?_
     ·refine jw 6 rfl zK (HQ _ (Uk.nw hu tY)) ?_;rintro _ TP ⟨rfl,axK⟩;refine ⟨_,rfl,?_⟩;have mJ:=tY.on axK;refine aO 4 ?_;refine aZ 10 ?_;refine lg 10 rfl mJ Hl ?_;intro aDP atg qO;refine dn ?_;refine aZ 11 ?_;refine sn 11 rfl 0 qO jD ?_;intro acG Dq;refine aO 3 ?_;refine dB aDP ?_ ⟨rfl,rfl,rfl,rfl,trivial⟩;exact Dq
     refine lg 10 rfl tY Hl ?_;intro aDQ aoy yD;refine dn ?_;refine aZ 6 ?_;refine jw 6 rfl zK (HQ _ (Uk.nw hu yD)) ?_;rintro _ abM ⟨rfl,aeF⟩;refine ⟨_,rfl,?_⟩;have zf:=yD.on aeF;refine aO 4 ?_;refine aZ 11 ?_;refine sn 11 rfl 0 zf jD ?_;intro X0 yE;refine aO 3 ?_;refine dB aDQ ?_ ⟨rfl,rfl,rfl,rfl,trivial⟩;exact yE
    rintro aDR air Ca
    try dsimp only at Ca
    refine bq (l':=[(0,.pointer (some ⟨kw,0,none⟩)),(3,.pointer (some ⟨b1,0,none⟩)),(6,.pointer (some ⟨aDR,0,none⟩)),(7,iV PW.2)]) ⟨rfl,rfl,rfl,rfl,trivial⟩ (aH (aC (vm ?_)));by_cases aLh:PW.2=0
    ·refine zN 14 ?_;refine vv (v:= .agg #[iV 6,iV (-2),iV x.l.fr,iV ((x.l.q:Nat):Int),iV PW.1.epoch,iV 0,iV PW.1.node,iV 0,iV 0,iV 0,iV 0,iV 0,iV 0,.slice none 0 0,.bool false,iV 0,iV 0,iV 0,iV 0,iV 0,iV 0,iV 0,iV 0]) gF ?_;have Ht:=Ca.eF [7,7];refine dz yY (gY (x:=⟨oD x.l.fr x.l.q PW.1,none,0⟩) Ht (by omega)) ?_;rintro _ aBo ⟨rfl,aiv,aiw,axL,anA,TH⟩;refine ⟨_,rfl,?_⟩;refine zQ ?_;refine cK (l':=[]) trivial (iE (bC (rs:=[]) (vs:=[]) rfl trivial ?_));have TI:=TH.aU [4,3,2];have zh:=TI.eF [6,6,3,3,6,6,6];rw [<-qZ] at zh;have lK:fu m.off x.l=m.off:=by
      unfold fu
      first | rw [KP,if_neg (by omega)] | rw [if_neg (by omega)]
     rw [sP (PW:=PW) qX (by rw [lK];exact wR) (by assumption),lK];exact ⟨rfl,Wd.dQ (X':=X) (z':=z) (Ls:=[]) (fA:=aiv) (fc:=aiw) (fx:=axL) (sA:=R.sA) (sc:=R.sc) (tA:=R.tA) (tc:=R.tc) hkn dx hrr G hn zh NG.more (by rw [anA];exact oM (jh rfl)) (aL hX).symm (by rw [anA,List.map_append,G.fly];rfl) mH⟩
    refine zN 7 ?_;have Aw:=Ca.aU [2,1,0];rw [<-qZ] at Aw;have lK:fu m.off x.l=m.off:=by
     unfold fu
     first | rw [KP,if_neg (by omega)] | rw [if_neg (by omega)]
    rw [sS (PW:=PW) qX (by rw [lK];exact wR) (by assumption),lK];exact ⟨rfl,Wd.dQ (X':=X) (z':=z) (Ls:=[]) (fA:=R.fA) (fc:=R.fc) (fx:=R.fx) (sA:=R.sA) (sc:=R.sc) (tA:=R.tA) (tc:=R.tc) hkn dx hrr G hn Aw NG.more (λu hu=> .inl hu) (aL hX).symm G.fly.symm mH⟩
   refine lg 14 rfl kJ aip ?_;intro Nr au2 Fv;refine dn ?_;refine aZ 10 ?_;refine jw 10 rfl amG (HF _ (Uk.nw hu Fv)) ?_;rintro _ aus ⟨rfl,axM⟩;refine ⟨_,rfl,?_⟩;have wu:=Fv.on axM;refine aO 4 ?_;refine aZ 15 ?_;refine snA 15 rfl 0 wu p9 ?_ (h1:=wO _);intro aix JY;refine aO 3 ?_;refine zN 4 ?_;by_cases aLi:FD.2=0
   ·refine zN 9 ?_;refine jL 5 JY p9 ?_ (h1:=wO _) (hs:=by exact aoF);intro aLj Yf;refine zN 2 ?_;obtain ⟨PW,wR⟩: ∃ r,bD FD.1 x.l.q=r:=⟨_,rfl⟩;have HQ:=λw h=>nD FD.1 x.l.q w h;rw [wR] at HQ;refine mE (X:=Nat) (λxv=>[(0,.pointer (some ⟨kw,0,none⟩)),(3,.pointer (some ⟨b1,0,none⟩)),(6,.pointer (some ⟨xv,0,none⟩)),(7,iV PW.2)]) (λxv wr=>St B w0 wr ((.blk xv #[iV PW.1.node,iV PW.1.epoch] 27)::(.blk Nr (((FD.1).cells).toArray) 30)::(.blk b1 (LX.row x) 146)::(.blk kn (dO n X.up (.slice z.tA X.data.length z.tc) X.syn (.slice (some ⟨z.bb,0,none⟩) 4 4) X.hints X.sure (.slice z.iA z.ix.length z.ic) (z.pv) X.turn) 120)::(.own 73 6 (.slice (some ⟨z.bb,0,none⟩) 4 4) 4 ((z.bx).flatMap BX.cells))::(fL z.iA z.ix z.ic)::(bW kw (.slice (some ⟨ab,ao,none⟩) 5 R.nc) FD.1 R.fA R.fx R.fc m.shown R.sA m.aP R.sc R.tA m.bM R.tc m.calls)::(oL R.fA R.fx R.fc)::(oS R.sA m.aP R.sc)::(oT R.tA m.bM R.tc)::rr)) ?_ ?_
    ·have rT:=Yf.drew;refine aN 13 rT [] ?_;refine aO 3 ?_;refine ak (v:= .agg (((FD.1).cells).toArray)) 3 rfl rT (λ_ axN=>(aj rfl rfl (aA (cs:=((FD.1).cells)) Tryz.underlying30 rfl p9 rfl (St.rg 5 axN rfl (yG))))) ?_;refine aO 2 ?_;refine gM (n:=6) (r:=6) (s:=10) (by kernel_rfl) ?_ ?_
     ·refine jw 6 rfl zK (HQ _ (Uk.nw hu rT)) ?_;rintro _ aiN ⟨rfl,axO⟩;refine ⟨_,rfl,?_⟩;have AB:=rT.on axO;refine aO 4 ?_;refine aZ 10 ?_;refine lg 10 rfl AB Hl ?_;intro adi aCC acF;refine dn ?_;refine aZ 11 ?_;refine sn 11 rfl 0 acF jD ?_;intro aLk apd;refine aO 3 ?_;refine dB adi ?_ ⟨rfl,rfl,rfl,rfl,trivial⟩;exact apd
     refine lg 10 rfl rT Hl ?_;intro aDS ape Yx;refine dn ?_;refine aZ 6 ?_;refine jw 6 rfl zK (HQ _ (Uk.nw hu Yx)) ?_;rintro _ aLl ⟨rfl,axP⟩;refine ⟨_,rfl,?_⟩;have ads:=Yx.on axP;refine aO 4 ?_;refine aZ 11 ?_;refine sn 11 rfl 0 ads jD ?_;intro aCG Ub;refine aO 3 ?_;refine dB aDS ?_ ⟨rfl,rfl,rfl,rfl,trivial⟩;exact Ub
    rintro aDT aLm apf
    try dsimp only at apf
    refine bq (l':=[(0,.pointer (some ⟨kw,0,none⟩)),(3,.pointer (some ⟨b1,0,none⟩)),(6,.pointer (some ⟨aDT,0,none⟩)),(7,iV PW.2)]) ⟨rfl,rfl,rfl,rfl,trivial⟩ (aH (aC (vm ?_)));by_cases aLn:PW.2=0
    ·refine zN 14 ?_;refine vv (v:= .agg #[iV 6,iV (-2),iV x.l.fr,iV ((x.l.q:Nat):Int),iV PW.1.epoch,iV 0,iV PW.1.node,iV 0,iV 0,iV 0,iV 0,iV 0,iV 0,.slice none 0 0,.bool false,iV 0,iV 0,iV 0,iV 0,iV 0,iV 0,iV 0,iV 0]) gF ?_;have aDU:=apf.eF [7,7];refine dz yY (gY (x:=⟨oD x.l.fr x.l.q PW.1,none,0⟩) aDU (by omega)) ?_;rintro _ aLo ⟨rfl,aDV,aDW,axQ,anB,aDX⟩;refine ⟨_,rfl,?_⟩;refine zQ ?_;refine cK (l':=[]) trivial (iE (bC (rs:=[]) (vs:=[]) rfl trivial ?_));have aiY:=aDX.aU [4,3,2];have au8:=aiY.eF [6,6,3,3,6,6,6];rw [<-qZ] at au8;have lK:fu m.off x.l=FD.1:=by
      unfold fu;rw [KP,if_pos (by omega)]
     rw [sP (PW:=PW) qX (by rw [lK];exact wR) (by assumption),lK];exact ⟨rfl,Wd.dQ (X':=X) (z':=z) (Ls:=[]) (fA:=aDV) (fc:=aDW) (fx:=axQ) (sA:=R.sA) (sc:=R.sc) (tA:=R.tA) (tc:=R.tc) hkn dx hrr G hn au8 NG.more (by rw [anB];exact oM (jh rfl)) (aL hX).symm (by rw [anB,List.map_append,G.fly];rfl) mH⟩
    refine zN 7 ?_;have au9:=apf.aU [2,1,0];rw [<-qZ] at au9;have lK:fu m.off x.l=FD.1:=by
     unfold fu;rw [KP,if_pos (by omega)]
    rw [sS (PW:=PW) qX (by rw [lK];exact wR) (by assumption),lK];exact ⟨rfl,Wd.dQ (X':=X) (z':=z) (Ls:=[]) (fA:=R.fA) (fc:=R.fc) (fx:=R.fx) (sA:=R.sA) (sc:=R.sc) (tA:=R.tA) (tc:=R.tc) hkn dx hrr G hn au9 NG.more (λu hu=> .inl hu) (aL hX).symm G.fly.symm mH⟩
   refine zN 6 ?_;obtain ⟨PW,wR⟩: ∃ r,bD m.off x.l.q=r:=⟨_,rfl⟩;have HQ:=λw h=>nD m.off x.l.q w h;rw [wR] at HQ;refine mE (X:=Nat) (λxv=>[(0,.pointer (some ⟨kw,0,none⟩)),(3,.pointer (some ⟨b1,0,none⟩)),(6,.pointer (some ⟨xv,0,none⟩)),(7,iV PW.2)]) (λxv wr=>St B w0 wr ((.blk xv #[iV PW.1.node,iV PW.1.epoch] 27)::(.blk Nr (((FD.1).cells).toArray) 30)::(.blk b1 (LX.row x) 146)::(.blk kn (dO n X.up (.slice z.tA X.data.length z.tc) X.syn (.slice (some ⟨z.bb,0,none⟩) 4 4) X.hints X.sure (.slice z.iA z.ix.length z.ic) (z.pv) X.turn) 120)::(.own 73 6 (.slice (some ⟨z.bb,0,none⟩) 4 4) 4 ((z.bx).flatMap BX.cells))::(fL z.iA z.ix z.ic)::(bW kw (.slice (some ⟨ab,ao,none⟩) 5 R.nc) m.off R.fA R.fx R.fc m.shown R.sA m.aP R.sc R.tA m.bM R.tc m.calls)::(oL R.fA R.fx R.fc)::(oS R.sA m.aP R.sc)::(oT R.tA m.bM R.tc)::rr)) ?_ ?_
   ·have adL:=JY.drew;refine aN 13 adL [] ?_;refine aO 3 ?_;refine ak (v:= .agg ((m.off.cells).toArray)) 3 rfl adL (λ_ axR=>(aj rfl rfl (aA (cs:=(m.off.cells)) Tryz.underlying30 rfl p9 rfl (St.rg 5 axR rfl (yG))))) ?_;refine aO 2 ?_;refine gM (n:=6) (r:=6) (s:=10) (by kernel_rfl) ?_ ?_
    ·refine jw 6 rfl zK (HQ _ (Uk.nw hu adL)) ?_;rintro _ aLp ⟨rfl,axS⟩;refine ⟨_,rfl,?_⟩;have aDY:=adL.on axS;refine aO 4 ?_;refine aZ 10 ?_;refine lg 10 rfl aDY Hl ?_;intro aDZ aLq apg;refine dn ?_;refine aZ 11 ?_;refine sn 11 rfl 0 apg jD ?_;intro aLr adM;refine aO 3 ?_;refine dB aDZ ?_ ⟨rfl,rfl,rfl,rfl,trivial⟩;exact adM
    refine lg 10 rfl adL Hl ?_;intro aD0 aLs ava;refine dn ?_;refine aZ 6 ?_;refine jw 6 rfl zK (HQ _ (Uk.nw hu ava)) ?_;rintro _ aLt ⟨rfl,axT⟩;refine ⟨_,rfl,?_⟩;have aD1:=ava.on axT;refine aO 4 ?_;refine aZ 11 ?_;refine sn 11 rfl 0 aD1 jD ?_;intro aLu aph;refine aO 3 ?_;refine dB aD0 ?_ ⟨rfl,rfl,rfl,rfl,trivial⟩;exact aph
   rintro aD2 aLv apj
   try dsimp only at apj
   refine bq (l':=[(0,.pointer (some ⟨kw,0,none⟩)),(3,.pointer (some ⟨b1,0,none⟩)),(6,.pointer (some ⟨aD2,0,none⟩)),(7,iV PW.2)]) ⟨rfl,rfl,rfl,rfl,trivial⟩ (aH (aC (vm ?_)));by_cases aLw:PW.2=0
   ·refine zN 14 ?_;refine vv (v:= .agg #[iV 6,iV (-2),iV x.l.fr,iV ((x.l.q:Nat):Int),iV PW.1.epoch,iV 0,iV PW.1.node,iV 0,iV 0,iV 0,iV 0,iV 0,iV 0,.slice none 0 0,.bool false,iV 0,iV 0,iV 0,iV 0,iV 0,iV 0,iV 0,iV 0]) gF ?_;have aD3:=apj.eF [7,7];refine dz yY (gY (x:=⟨oD x.l.fr x.l.q PW.1,none,0⟩) aD3 (by omega)) ?_;rintro _ aLx ⟨rfl,aD4,aD5,axU,anC,aiZ⟩;refine ⟨_,rfl,?_⟩;refine zQ ?_;refine cK (l':=[]) trivial (iE (bC (rs:=[]) (vs:=[]) rfl trivial ?_));have aD6:=aiZ.aU [4,3,2];have avb:=aD6.eF [6,6,3,3,6,6,6];rw [<-qZ] at avb;have lK:fu m.off x.l=m.off:=by
     unfold fu
     first | rw [KP,if_neg (by omega)] | rw [if_neg (by omega)]
    rw [sP (PW:=PW) qX (by rw [lK];exact wR) (by assumption),lK];exact ⟨rfl,Wd.dQ (X':=X) (z':=z) (Ls:=[]) (fA:=aD4) (fc:=aD5) (fx:=axU) (sA:=R.sA) (sc:=R.sc) (tA:=R.tA) (tc:=R.tc) hkn dx hrr G hn avb NG.more (by rw [anC];exact oM (jh rfl)) (aL hX).symm (by rw [anC,List.map_append,G.fly];rfl) mH⟩
   refine zN 7 ?_;have avc:=apj.aU [2,1,0];rw [<-qZ] at avc;have lK:fu m.off x.l=m.off:=by
    unfold fu
    first | rw [KP,if_neg (by omega)] | rw [if_neg (by omega)]
   rw [sS (PW:=PW) qX (by rw [lK];exact wR) (by assumption),lK];exact ⟨rfl,Wd.dQ (X':=X) (z':=z) (Ls:=[]) (fA:=R.fA) (fc:=R.fc) (fx:=R.fx) (sA:=R.sA) (sc:=R.sc) (tA:=R.tA) (tc:=R.tc) hkn dx hrr G hn avc NG.more (λu hu=> .inl hu) (aL hX).symm G.fly.symm mH⟩
  refine zN 6 ?_;obtain ⟨PW,wR⟩: ∃ r,bD m.off x.l.q=r:=⟨_,rfl⟩;have HQ:=λw h=>nD m.off x.l.q w h;rw [wR] at HQ;refine mE (X:=Nat) (λxv=>[(0,.pointer (some ⟨kw,0,none⟩)),(3,.pointer (some ⟨b1,0,none⟩)),(6,.pointer (some ⟨xv,0,none⟩)),(7,iV PW.2)]) (λxv wr=>St B w0 wr ((.blk xv #[iV PW.1.node,iV PW.1.epoch] 27)::(.blk b1 (LX.row x) 146)::(.blk kn (dO n X.up (.slice z.tA X.data.length z.tc) X.syn (.slice (some ⟨z.bb,0,none⟩) 4 4) X.hints X.sure (.slice z.iA z.ix.length z.ic) (z.pv) X.turn) 120)::(.own 73 6 (.slice (some ⟨z.bb,0,none⟩) 4 4) 4 ((z.bx).flatMap BX.cells))::(fL z.iA z.ix z.ic)::(bW kw (.slice (some ⟨ab,ao,none⟩) 5 R.nc) m.off R.fA R.fx R.fc m.shown R.sA m.aP R.sc R.tA m.bM R.tc m.calls)::(oL R.fA R.fx R.fc)::(oS R.sA m.aP R.sc)::(oT R.tA m.bM R.tc)::rr)) ?_ ?_
  ·have adN:=S3.drew;refine aN 13 adN [] ?_;refine aO 3 ?_;refine ak (v:= .agg ((m.off.cells).toArray)) 3 rfl adN (λ_ axV=>(aj rfl rfl (aA (cs:=(m.off.cells)) Tryz.underlying30 rfl p9 rfl (St.rg 4 axV rfl (yG))))) ?_;refine aO 2 ?_;refine gM (n:=6) (r:=6) (s:=10) (by kernel_rfl) ?_ ?_
   ·refine jw 6 rfl zK (HQ _ (Uk.nw hu adN)) ?_;rintro _ aLy ⟨rfl,axW⟩;refine ⟨_,rfl,?_⟩;have aD7:=adN.on axW;refine aO 4 ?_;refine aZ 10 ?_;refine lg 10 rfl aD7 Hl ?_;intro aD8 aLz aD9;refine dn ?_;refine aZ 11 ?_;refine sn 11 rfl 0 aD9 jD ?_;intro aLA aEa;refine aO 3 ?_;refine dB aD8 ?_ ⟨rfl,rfl,rfl,rfl,trivial⟩;exact aEa
   refine lg 10 rfl adN Hl ?_;intro aEb aLB avd;refine dn ?_;refine aZ 6 ?_;refine jw 6 rfl zK (HQ _ (Uk.nw hu avd)) ?_;rintro _ aLC ⟨rfl,axX⟩;refine ⟨_,rfl,?_⟩;have aEc:=avd.on axX;refine aO 4 ?_;refine aZ 11 ?_;refine sn 11 rfl 0 aEc jD ?_;intro aLD aEd;refine aO 3 ?_;refine dB aEb ?_ ⟨rfl,rfl,rfl,rfl,trivial⟩;exact aEd
  rintro aEe aLE apk
  try dsimp only at apk
  refine bq (l':=[(0,.pointer (some ⟨kw,0,none⟩)),(3,.pointer (some ⟨b1,0,none⟩)),(6,.pointer (some ⟨aEe,0,none⟩)),(7,iV PW.2)]) ⟨rfl,rfl,rfl,rfl,trivial⟩ (aH (aC (vm ?_)));by_cases aLF:PW.2=0
  ·refine zN 14 ?_;refine vv (v:= .agg #[iV 6,iV (-2),iV x.l.fr,iV ((x.l.q:Nat):Int),iV PW.1.epoch,iV 0,iV PW.1.node,iV 0,iV 0,iV 0,iV 0,iV 0,iV 0,.slice none 0 0,.bool false,iV 0,iV 0,iV 0,iV 0,iV 0,iV 0,iV 0,iV 0]) gF ?_;have aEf:=apk.eF [6,6];refine dz yY (gY (x:=⟨oD x.l.fr x.l.q PW.1,none,0⟩) aEf (by omega)) ?_;rintro _ aLG ⟨rfl,aEg,aEh,axY,anD,aEi⟩;refine ⟨_,rfl,?_⟩;refine zQ ?_;refine cK (l':=[]) trivial (iE (bC (rs:=[]) (vs:=[]) rfl trivial ?_));have ai0:=aEi.aU [3,2];have ave:=ai0.eF [6,6,3,3,6,6,6];rw [<-qZ] at ave;have lK:fu m.off x.l=m.off:=by
    unfold fu
    first | rw [KP,if_neg (by omega)] | rw [if_neg (by omega)]
   rw [sP (PW:=PW) qX (by rw [lK];exact wR) (by assumption),lK];exact ⟨rfl,Wd.dQ (X':=X) (z':=z) (Ls:=[]) (fA:=aEg) (fc:=aEh) (fx:=axY) (sA:=R.sA) (sc:=R.sc) (tA:=R.tA) (tc:=R.tc) hkn dx hrr G hn ave NG.more (by rw [anD];exact oM (jh rfl)) (aL hX).symm (by rw [anD,List.map_append,G.fly];rfl) mH⟩
  refine zN 7 ?_;have avf:=apk.aU [1,0];rw [<-qZ] at avf;have lK:fu m.off x.l=m.off:=by
   unfold fu
   first | rw [KP,if_neg (by omega)] | rw [if_neg (by omega)]
  rw [sS (PW:=PW) qX (by rw [lK];exact wR) (by assumption),lK];exact ⟨rfl,Wd.dQ (X':=X) (z':=z) (Ls:=[]) (fA:=R.fA) (fc:=R.fc) (fx:=R.fx) (sA:=R.sA) (sc:=R.sc) (tA:=R.tA) (tc:=R.tc) hkn dx hrr G hn avf NG.more (λu hu=> .inl hu) (aL hX).symm G.fly.symm mH⟩
 refine zN 18 ?_;refine dR S3 mixed (by kernel_rfl) ?_;refine zN 3 ?_;refine uv (v:= .slice (some ⟨ab,ao,none⟩) 5 R.nc) (λ_ axZ=>(aj rfl rfl (av Tryz.underlying105 rfl (St.cl 4 axZ rfl AA)))) ?_;refine zQ ?_;refine uv (v:=iV ((n:Nat):Int)) (λ_ ax0=>(qX▸(aj rfl rfl (av Tryz.underlying3 rfl (St.cl 0 ax0 rfl rfl))))) ?_;refine uv (λ_ _=>jI n) ?_;refine uv (v:= .pointer (some ⟨kn,0,none⟩)) (λ_ ax1=>(aj rfl rfl (av Tryz.underlying113 rfl (hkn▸wP harr hn ax1 (memT 8 rfl hL))))) ?_;refine zN 4 ?_;refine fC λaLH avg=>?_;refine zQ ?_
 cases aHz:(X.up)
 ·refine bq (l':=[(0,.pointer (some ⟨kw,0,none⟩)),(3,.pointer (some ⟨b1,0,none⟩)),(76,.bool false)]) ⟨rfl,rfl,rfl,trivial⟩ (lD rfl (qh (iE (bC (rs:=[]) (vs:=[]) rfl trivial ?_))));have avh:=avg.aU [0];rw [<-qZ] at avh;rw [adK qX hX (by assumption)];exact ⟨rfl,Wd.dQ (X':=X) (z':=z) (Ls:=[]) (fA:=R.fA) (fc:=R.fc) (fx:=R.fx) (sA:=R.sA) (sc:=R.sc) (tA:=R.tA) (tc:=R.tc) hkn dx hrr G hn avh NG.more (λu hu=> .inl hu) (aL hX).symm G.fly.symm mH⟩
 refine bq (l':=[(0,.pointer (some ⟨kw,0,none⟩)),(3,.pointer (some ⟨b1,0,none⟩)),(76,.bool true)]) ⟨rfl,rfl,rfl,trivial⟩ (l8 rfl (aH (dR avg mixed (by kernel_rfl) ?_)));refine zN 3 ?_;refine uv (v:= .slice (some ⟨ab,ao,none⟩) 5 R.nc) (λ_ ax2=>(aj rfl rfl (av Tryz.underlying105 rfl (St.cl 4 ax2 rfl AA)))) ?_;refine zQ ?_;refine uv (v:=iV ((n:Nat):Int)) (λ_ ax3=>(qX▸(aj rfl rfl (av Tryz.underlying3 rfl (St.cl 0 ax3 rfl rfl))))) ?_;refine uv (λ_ _=>jI n) ?_;refine uv (v:= .pointer (some ⟨kn,0,none⟩)) (λ_ ax4=>(aj rfl rfl (av Tryz.underlying113 rfl (hkn▸wP harr hn ax4 (memT 8 rfl hL))))) ?_;refine zQ ?_;refine fC λaLI aEj=>?_;refine zQ ?_;have ai1:=aEj.drew;refine fH 11 8 ai1 [3] ?_;iterate 6 refine gW ?_
 refine fq (m:=4) (r:=6) (by kernel_rfl) ?_;refine mF (i:=6) rfl rfl (V:=λb=> .slice (some ⟨b,0,none⟩) 1 1) (row:=LX.row x) (t:=146) ai1 (wn rfl) rfl rfl (bg (vs:=[(0,.agg (LX.row x))]) rfl ⟨rfl,rfl,trivial⟩ (by kernel_rfl)) ?_;intro aLJ aLK avi;refine gW ?_;refine fq (m:=3) (r:=7) (by kernel_rfl) ?_;refine abE (i:=7) rfl rfl (news:=(LX.cells x)) (xs':=(z.ix++[x]).flatMap LX.cells) 4 avi (wn rfl) rfl rfl rfl rfl rfl rfl (St.lM (xs:=(LX.cells x)) 0 avi rfl rfl rfl) (by decide) Tryz.underlying106 aan rfl (by decide) (EG _) (by simp only [maxLen];omega) (by omega) (iJ (enc:=LX.cells) rfl rfl) ?_;intro avj avk aLL aEk;refine gW ?_;refine eP (by kernel_rfl) rfl rfl rfl ?_;refine zN 2 ?_;refine jL (row':=dO n X.up (.slice z.tA X.data.length z.tc) X.syn (.slice (some ⟨z.bb,0,none⟩) 4 4) X.hints X.sure (.slice avj (z.ix.length+1) avk) (z.pv) X.turn) 2 aEk CY ?_;intro aLM aEl;refine zQ ?_;refine jk ?_;refine cK (l':=[]) trivial (iE (bC (rs:=[]) (vs:=[]) rfl trivial ?_));have apl:=aEl.aU [1,0];rw [<-qZ] at apl;have XA:z.ix.length+1=(z.ix++[x]).length:=by simp
 rw [XA] at apl;rw [adJ qX hX (by assumption)];exact ⟨rfl,Wd.dQ (X':=X.box (X.inbox++[x.l])) (z':={ z with iA:=avj,ic:=avk,ix:=z.ix++[x] }) (Ls:=[]) (fA:=R.fA) (fc:=R.fc) (fx:=R.fx) (sA:=R.sA) (sc:=R.sc) (tA:=R.tA) (tc:=R.tc) hkn dx hrr G hn apl (NG.more.axI (by rw [List.append_nil];exact G.hld x (List.mem_cons_self ..))) (λu hu=> .inl hu) rfl G.fly.symm mH⟩
set_option linter.unnecessarySimpa false
theorem XB {α β:Type} (f:α->β): ∀ (l:List α) (i:Nat),(l.eraseIdx i).map f=(l.map f).eraseIdx i
 | [],_=>rfl
 | _::_,0=>rfl
 | a::l,i+1=>congrArg (f a:: ·) (XB f l i)
theorem adO {m:Cl} {at_:Nat} {c s:Bool} (h:m.fly.length=0):m.pick at_ c s=m:=by
 unfold Cl.pick;rw [List.length_eq_zero_iff.1 h];rfl
theorem Cz {m:Cl} {at_:Nat} {c s:Bool} {l:iD} (h:m.fly[at_ % m.fly.length]? =some l):m.pick at_ c s=if c=true then (if s=true then m else { m with fly:=m.fly.eraseIdx (at_ % m.fly.length) }).come l else if s=true then m else { m with fly:=m.fly.eraseIdx (at_ % m.fly.length) }:=by
 unfold Cl.pick;rw [h]
theorem Wd.drop1 {K:CK} {B:Nat} {w0 w:World} {fs:List Fact} {m:Cl} {x:LX} {H:List LX} (h:Wd K B w0 w fs m (x::H)):Wd K B w0 w fs m H:=by
 obtain ⟨R,G,S⟩:=h;exact ⟨R,⟨G.fly,G.flo,G.lJ,G.arr,λu hu=>G.hld u (List.mem_cons_of_mem _ hu)⟩,S⟩
theorem Eh {K:CK} {B n kn kw:Nat} {w0 w:World} {fs:List Fact} {m:Cl} {H:List LX} {at_:Nat} {comes stays:Bool} (hn:n<5) (hkn:K.nb n=kn) (dx:K.wb=kw) (hu:Uk B w0) (hB1:m.fly.length<=1000000000) (hB2:m.bM.length<=1000000000000) (hib: ∀ j,j<5->(m.ah j).inbox.length<=1000000000) (HW:Wd K B w0 w fs m H) (qX: ∀ l∈m.fly,∃ j,j<5/\(l.tg= -1\/l.tg= -2\/l.tg=((j:Nat):Int))):
    Calls Tryz.prog 55 #[pV kw 0,iV ((at_:Nat):Int),.bool comes,.bool stays] w (λe w'=>e= .returned (.tuple #[])/\Wd K B w0 w' fs (m.pick at_ comes stays) H):=by
 obtain ⟨R,G,S0⟩:=HW.open hn;have hfl:R.fx.length=m.fly.length:=by rw [<-G.fly,List.length_map]
 have NG:=G.lJ n hn;obtain ⟨X,hX⟩: ∃ X,m.ah n=X:=⟨_,rfl⟩;obtain ⟨z,hz⟩: ∃ z,R.nx n=z:=⟨_,rfl⟩;rw [hX,hz] at S0 NG;have hL: ∀ f∈R.L,f∈gI K R m fs n:=λf h=>List.mem_append_right _ (List.mem_append_right _ h);obtain ⟨rr,hrr⟩: ∃ r,gI K R m fs n=r:=⟨_,rfl⟩;rw [hrr] at S0 hL;have S:St B w0 w ((bN kn n X.up z.tA X.data z.tc X.syn z.bb X.hints X.sure z.iA z.ix z.ic z.pv X.turn)::(oB z.bb z.bx)::(fL z.iA z.ix z.ic)::(bW kw (.slice R.nA 5 R.nc) m.off R.fA R.fx R.fc m.shown R.sA m.aP R.sc R.tA m.bM R.tc m.calls)::(oL R.fA R.fx R.fc)::(oS R.sA m.aP R.sc)::(oT R.tA m.bM R.tc)::rr):=by subst hkn;subst dx;exact S0
 clear S0;have hlen:=(S.own 1 rfl).1;rw [gQ (sz:=6) (λ_=>rfl)] at hlen;refine gq 47 Tryz.func55 ?_;refine cw [0,1,2,3] ?_;refine zN 6 ?_;refine vv (aj rfl rfl (av Tryz.underlying106 rfl (St.cl 3 S rfl TV))) ?_;refine zQ ?_;by_cases h1:((R.fx.length:Nat):Int)=0
 ·refine zN 7 ?_;rw [adO (by rw [<-hfl];omega)];exact ⟨rfl,HW⟩
 refine zN 7 ?_;obtain ⟨g2,hfA⟩:=Fa (S.own 4 rfl) (by omega);have S2:=S;rw [hfA] at S2;obtain ⟨i,hit⟩: ∃ i,i=at_ % R.fx.length:=⟨_,rfl⟩;have hi:i<R.fx.length:=by rw [hit];exact Nat.mod_lt _ (by omega)
 obtain ⟨x,hx⟩: ∃ x,R.fx[i]? =some x:=⟨_,List.getElem?_eq_getElem hi⟩;have hxm:x∈R.fx:=List.mem_of_getElem? hx;have hfi:m.fly[at_ % m.fly.length]? =some x.l:=by rw [<-hfl,<-hit,<-G.fly,List.getElem?_map,hx];rfl
 refine zN 5 ?_;refine vv (aj rfl rfl (av Tryz.underlying106 rfl (St.cl 3 S2 rfl TV))) ?_;refine zQ ?_;refine vv (v:=iV ((i:Nat):Int)) (aR rfl rfl rfl (Xw hit (by omega))) ?_;refine zN 8 ?_;refine vv (aj rfl rfl (av Tryz.underlying106 rfl (St.cl 3 S2 rfl TV))) ?_;refine zQ ?_;refine vv (jI i) ?_;refine vv (aj rfl rfl (aA (cs:=LX.cells x) Tryz.underlying146 rfl yg rfl (Rd.uW (St.ord 4 S2 rfl) (λ_ _ h=>aX (enc:=LX.cells) (sz:=23) (λ_=>rfl) hx h)))) ?_;refine fJ S2 aew ?_;intro b3 w4 S5;refine sa 0 S5 yg ?_;intro w6 S7;refine zN 6 ?_
 cases hb8:(stays)
 ·refine zN 9 ?_;refine vv (aj rfl rfl (av Tryz.underlying106 rfl (St.cl 4 S7 rfl TV))) ?_;refine zN 2 ?_;refine vv (v:=iV ((i+1:Nat):Int)) gu ?_;have S9:=S7.eF [7,7,7,7,7,7,7];refine dz av2 (VI g2 R.fx.length R.fc i _ (R.fx.flatMap LX.cells) _ (S9.own 4 rfl) (alF _) hi) ?_;rintro _ w10 ⟨rfl,aEm,avl⟩;refine ⟨_,rfl,?_⟩;rw [Lb (enc:=LX.cells) (sz:=23) (λ_=>rfl)] at avl;have tu:=S9.aer 4 rfl aEm avl;refine zN 2 ?_;refine jL 3 tu CY ?_ (hs:=by exact aoE);intro MB iH;refine zN 7 ?_
  cases aLN:(comes)
  ·refine bq (l':=[(0,pV kw 0),(9,pV b3 0),(43,.bool false)]) ⟨rfl,rfl,rfl,trivial⟩ (lD rfl (qh (bC (rs:=[]) (vs:=[]) rfl trivial ?_)));rw [Cz hfi];have XA:R.fx.length-1=(R.fx.eraseIdx i).length:=by rw [List.length_eraseIdx,if_pos hi]
   rw [XA] at iH;have apm:=Wd.dQ (X':=X) (z':=z) (m':={ m with fly:=m.fly.eraseIdx (at_ % m.fly.length) }) (H':=x::H) (Ls:=[.blk b3 #[iV x.l.kd,iV x.l.fr,iV x.l.tg,iV ((x.l.q:Nat):Int),iV x.l.ep,iV x.l.at_,iV x.l.nd,iV x.l.op.kind,iV x.l.op.producer,iV x.l.op.id,iV x.l.op.body,iV x.l.op.aG,iV x.l.op.hno,.slice x.A x.l.evs.length x.c,.bool x.l.last,iV x.l.num,iV x.l.bM.num,iV x.l.bM.ans.code,iV x.l.bM.ans.dK,iV x.l.bM.ans.hno,iV x.l.bM.ans.body,iV x.l.bM.pl.node,iV x.l.bM.pl.epoch] 146]) (fA:=(aD g2 0)) (fc:=R.fc) (fx:=R.fx.eraseIdx i) (sA:=R.sA) (sc:=R.sc) (tA:=R.tA) (tc:=R.tc) hkn dx hrr G hn iH NG.more (λu hu=> .inl (List.mem_of_mem_eraseIdx hu)) (aL hX).symm (by rw [XB,G.fly,hit,hfl]) (λu hu=>(List.mem_cons.1 hu).elim (λe=> .inr (e▸((G.flo x hxm).mono λf hf=>List.mem_append_left _ hf))) .inl);exact ⟨rfl,by simpa [*] using Wd.drop1 apm⟩
  refine bq (l':=[(0,pV kw 0),(9,pV b3 0),(43,.bool true)]) ⟨rfl,rfl,rfl,trivial⟩ (l8 rfl (aC (vm ?_)));refine zQ ?_;have XA:R.fx.length-1=(R.fx.eraseIdx i).length:=by rw [List.length_eraseIdx,if_pos hi]
  rw [XA] at iH;have aEn:=Wd.dQ (X':=X) (z':=z) (m':={ m with fly:=m.fly.eraseIdx (at_ % m.fly.length) }) (H':=x::H) (Ls:=[.blk b3 #[iV x.l.kd,iV x.l.fr,iV x.l.tg,iV ((x.l.q:Nat):Int),iV x.l.ep,iV x.l.at_,iV x.l.nd,iV x.l.op.kind,iV x.l.op.producer,iV x.l.op.id,iV x.l.op.body,iV x.l.op.aG,iV x.l.op.hno,.slice x.A x.l.evs.length x.c,.bool x.l.last,iV x.l.num,iV x.l.bM.num,iV x.l.bM.ans.code,iV x.l.bM.ans.dK,iV x.l.bM.ans.hno,iV x.l.bM.ans.body,iV x.l.bM.pl.node,iV x.l.bM.pl.epoch] 146]) (fA:=(aD g2 0)) (fc:=R.fc) (fx:=R.fx.eraseIdx i) (sA:=R.sA) (sc:=R.sc) (tA:=R.tA) (tc:=R.tc) hkn dx hrr G hn iH NG.more (λu hu=> .inl (List.mem_of_mem_eraseIdx hu)) (aL hX).symm (by rw [XB,G.fly,hit,hfl]) (λu hu=>(List.mem_cons.1 hu).elim (λe=> .inr (e▸((G.flo x hxm).mono λf hf=>List.mem_append_left _ hf))) .inl);obtain ⟨nn,hnn,htt⟩: ∃ nn,nn<5/\(x.l.tg= -1\/x.l.tg= -2\/x.l.tg=((nn:Nat):Int)):=qX x.l (by rw [<-G.fly];exact List.mem_map_of_mem hxm);refine dz an0 (Ef (m:={ m with fly:=m.fly.eraseIdx (at_ % m.fly.length) }) (x:=x) hnn rfl dx hu (by first | omega | (show (m.fly.eraseIdx _).length<=_;have:=List.length_eraseIdx_le m.fly (at_ % m.fly.length);omega)) hB2 (hib nn hnn) aEn htt) ?_;rintro _ Hw ⟨rfl,aEo⟩;refine ⟨_,rfl,?_⟩;refine zQ ?_;refine cK (l':=[]) trivial (bC (rs:=[]) (vs:=[]) rfl trivial ?_);rw [Cz hfi];exact ⟨rfl,by simpa [*] using aEo⟩
 refine zN 11 ?_
 cases aLO:(comes)
 ·refine bq (l':=[(0,pV kw 0),(9,pV b3 0),(43,.bool false)]) ⟨rfl,rfl,rfl,trivial⟩ (lD rfl (qh (bC (rs:=[]) (vs:=[]) rfl trivial ?_)));rw [Cz hfi];have iY:=S7.eF [7,7,7,7,7,7,7];rw [<-hfA] at iY;have aEp:=Wd.dQ (X':=X) (z':=z) (m':=m) (H':=x::H) (Ls:=[.blk b3 #[iV x.l.kd,iV x.l.fr,iV x.l.tg,iV ((x.l.q:Nat):Int),iV x.l.ep,iV x.l.at_,iV x.l.nd,iV x.l.op.kind,iV x.l.op.producer,iV x.l.op.id,iV x.l.op.body,iV x.l.op.aG,iV x.l.op.hno,.slice x.A x.l.evs.length x.c,.bool x.l.last,iV x.l.num,iV x.l.bM.num,iV x.l.bM.ans.code,iV x.l.bM.ans.dK,iV x.l.bM.ans.hno,iV x.l.bM.ans.body,iV x.l.bM.pl.node,iV x.l.bM.pl.epoch] 146]) (fA:=R.fA) (fc:=R.fc) (fx:=R.fx) (sA:=R.sA) (sc:=R.sc) (tA:=R.tA) (tc:=R.tc) hkn dx hrr G hn iY NG.more (λu hu=> .inl hu) (aL hX).symm G.fly.symm (λu hu=>(List.mem_cons.1 hu).elim (λe=> .inr (e▸((G.flo x hxm).mono λf hf=>List.mem_append_left _ hf))) .inl);exact ⟨rfl,by simpa [*] using Wd.drop1 aEp⟩
 refine bq (l':=[(0,pV kw 0),(9,pV b3 0),(43,.bool true)]) ⟨rfl,rfl,rfl,trivial⟩ (l8 rfl (aC (vm ?_)));refine zQ ?_;have jS:=S7.eF [7,7,7,7,7,7,7];rw [<-hfA] at jS;have aEq:=Wd.dQ (X':=X) (z':=z) (m':=m) (H':=x::H) (Ls:=[.blk b3 #[iV x.l.kd,iV x.l.fr,iV x.l.tg,iV ((x.l.q:Nat):Int),iV x.l.ep,iV x.l.at_,iV x.l.nd,iV x.l.op.kind,iV x.l.op.producer,iV x.l.op.id,iV x.l.op.body,iV x.l.op.aG,iV x.l.op.hno,.slice x.A x.l.evs.length x.c,.bool x.l.last,iV x.l.num,iV x.l.bM.num,iV x.l.bM.ans.code,iV x.l.bM.ans.dK,iV x.l.bM.ans.hno,iV x.l.bM.ans.body,iV x.l.bM.pl.node,iV x.l.bM.pl.epoch] 146]) (fA:=R.fA) (fc:=R.fc) (fx:=R.fx) (sA:=R.sA) (sc:=R.sc) (tA:=R.tA) (tc:=R.tc) hkn dx hrr G hn jS NG.more (λu hu=> .inl hu) (aL hX).symm G.fly.symm (λu hu=>(List.mem_cons.1 hu).elim (λe=> .inr (e▸((G.flo x hxm).mono λf hf=>List.mem_append_left _ hf))) .inl);obtain ⟨nn,hnn,htt⟩: ∃ nn,nn<5/\(x.l.tg= -1\/x.l.tg= -2\/x.l.tg=((nn:Nat):Int)):=qX x.l (by rw [<-G.fly];exact List.mem_map_of_mem hxm);refine dz an0 (Ef (m:=m) (x:=x) hnn rfl dx hu (by first | omega | (show (m.fly.eraseIdx _).length<=_;have:=List.length_eraseIdx_le m.fly (at_ % m.fly.length);omega)) hB2 (hib nn hnn) aEq htt) ?_;rintro _ KD ⟨rfl,aEr⟩;refine ⟨_,rfl,?_⟩;refine zQ ?_;refine cK (l':=[]) trivial (bC (rs:=[]) (vs:=[]) rfl trivial ?_);rw [Cz hfi];exact ⟨rfl,by simpa [*] using aEr⟩
theorem adP {calls:Nat} {nv fv sv tv x:Value} {d:Dir} {sh:Nat->Nat->Int×Int}:dG (lI nv d fv sh sv tv calls) 0 [x]=lI x d fv sh sv tv calls:=JD (Nat.le_of_ble_eq_true rfl) rfl
theorem St.flip {B:Nat} {w0 w:World} {gs fs:List Fact} (S:St B w0 w (gs++fs)):St B w0 w (fs++gs):=S.perm List.perm_append_comm
def anE (a b c d e:Nat):Nat->Nat
 | 0=>a
 | 1=>b
 | 2=>c
 | 3=>d
 | _=>e
theorem QL {L:List Fact}: ∀ y∈uo,Co L y:=λy hy=>by
 have:y=SH:=by simpa [uo] using hy
 subst this;exact ⟨Ro.none_,Nat.zero_le _⟩
theorem WG {B:Nat} {w0 w:World} {fs:List Fact} (S:St B w0 w fs) (hu:Uk B w0):
    Calls Tryz.prog 36 #[] w (λe w'=> ∃ K:CK,e= .returned (pV K.wb 0)/\Wd K B w0 w' fs iX []):=by
 refine gq 27 Tryz.func36 ?_;refine bq (l':=[]) trivial (aH (aC (va ?_)));refine zN 4 ?_;refine dz aAb (Y5 _ (Uk.nw hu S)) ?_;rintro _ w1 ⟨rfl,hb3⟩;refine ⟨_,rfl,?_⟩;have S2:=S.on hb3;refine vv (v:= .agg (lI (.slice none 0 0) (⟨nowhere,nowhere,nowhere,nowhere⟩:Dir) (.slice none 0 0) (λ_ _=>(0,0)) (.slice none 0 0) (.slice none 0 0) 0)) gF ?_;refine iP S2 ?_;intro b4 w5 S6;refine zN 10 ?_;refine QJ (mR (aH (aC (vv Dk ?_))));refine zN 17 ?_;refine vv (v:= .agg (dO 0 true (.slice none 0 0) 0 (.slice none 0 0) (λ_=>(⟨0,0⟩:Pl)) (λ_=>false) (.slice none 0 0) (.nilFunc) 0)) gF ?_;refine iP S6 ?_;intro b7 w8 S9;refine zN 6 ?_;refine dz TD (nI S9 hu) ?_;rintro _ Cc ⟨rfl,aEs,kE⟩;refine ⟨_,rfl,?_⟩;refine zN 2 ?_;have yu:=kE.nil 113 1;refine zN 5 ?_;refine vv (aj rfl rfl (av Tryz.underlying105 rfl (St.cl 3 yu rfl AA))) ?_;refine zQ ?_;refine bsI yu ?_;intro b14 KI l6;refine dw (news:=[pV b7 0]) (xs':=[gV b7]) 1 l6 (wn rfl) rfl rfl rfl rfl rfl rfl (St.lM (xs:=[pV b7 0]) 0 l6 rfl rfl rfl) Tryz.underlying105 Es rfl (by decide) (bX rfl) (by simp only [maxLen];omega) (by omega) rfl ?_;intro MG c18 Hw hc21 aEt nO;refine zN 2 ?_;refine jL 4 nO Gc ?_ (hs:=by exact adP);intro Mw jS;refine zN 4 ?_;refine vv (v:=iV 1) gu ?_;refine zN 2 ?_;refine qA (mR (aH (aC (vv Dk ?_))));refine zN 17 ?_;refine vv (v:= .agg (dO 1 true (.slice none 0 0) 0 (.slice none 0 0) (λ_=>(⟨0,0⟩:Pl)) (λ_=>false) (.slice none 0 0) (.nilFunc) 0)) gF ?_;refine iP jS ?_;intro Uv KD pE;refine zN 6 ?_;refine dz TD (nI pE hu) ?_;rintro _ Uy ⟨rfl,aEu,oz⟩;refine ⟨_,rfl,?_⟩;refine zN 7 ?_;refine vv (aj rfl rfl (av Tryz.underlying105 rfl (St.cl 6 oz rfl AA))) ?_;refine zQ ?_;refine bsI oz ?_;intro b31 w32 oG;refine dw (news:=[pV Uv 0]) (xs':=[gV b7,gV Uv]) 4 oG (wn rfl) rfl rfl rfl rfl rfl rfl (St.lM (xs:=[pV Uv 0]) 0 oG rfl rfl rfl) Tryz.underlying105 Es rfl (by decide) (bX rfl) (by simp only [maxLen];omega) (by omega) rfl ?_;intro A34 c35 w36 hc38 aB3 qL;refine zN 2 ?_;refine jL 7 qL Gc ?_ (hs:=by exact adP);intro w40 Db;refine zN 4 ?_;refine vv (v:=iV 2) gu ?_;refine zN 2 ?_;refine qA (mR (aH (aC (vv Dk ?_))));refine zN 17 ?_;refine vv (v:= .agg (dO 2 true (.slice none 0 0) 0 (.slice none 0 0) (λ_=>(⟨0,0⟩:Pl)) (λ_=>false) (.slice none 0 0) (.nilFunc) 0)) gF ?_;refine iP Db ?_;intro EM w43 DV;refine zN 6 ?_;refine dz TD (nI DV hu) ?_;rintro _ Xi ⟨rfl,aEv,wW⟩;refine ⟨_,rfl,?_⟩;refine zN 7 ?_;refine vv (aj rfl rfl (av Tryz.underlying105 rfl (St.cl 9 wW rfl AA))) ?_;refine zQ ?_;refine bsI wW ?_;intro UK Xb rM;refine dw (news:=[pV EM 0]) (xs':=[gV b7,gV Uv,gV EM]) 7 rM (wn rfl) rfl rfl rfl rfl rfl rfl (St.lM (xs:=[pV EM 0]) 0 rM rfl rfl rfl) Tryz.underlying105 Es rfl (by decide) (bX rfl) (by simp only [maxLen];omega) (by omega) rfl ?_;intro A51 c52 w53 aLP aLQ mh;refine zN 2 ?_;refine jL 10 mh Gc ?_ (hs:=by exact adP);intro w57 DT;refine zN 4 ?_;refine vv (v:=iV 3) gu ?_;refine zN 2 ?_;refine qA (mR (aH (aC (vv Dk ?_))));refine zN 17 ?_;refine vv (v:= .agg (dO 3 true (.slice none 0 0) 0 (.slice none 0 0) (λ_=>(⟨0,0⟩:Pl)) (λ_=>false) (.slice none 0 0) (.nilFunc) 0)) gF ?_
 refine iP DT ?_;intro Xv w60 Gn;refine zN 6 ?_;refine dz TD (nI Gn hu) ?_;rintro _ w63 ⟨rfl,aEw,S64⟩;refine ⟨_,rfl,?_⟩;refine zN 7 ?_;refine vv (aj rfl rfl (av Tryz.underlying105 rfl (St.cl 12 S64 rfl AA))) ?_;refine zQ ?_;refine bsI S64 ?_;intro b65 Xd uZ;refine dw (news:=[pV Xv 0]) (xs':=[gV b7,gV Uv,gV EM,gV Xv]) 10 uZ (wn rfl) rfl rfl rfl rfl rfl rfl (St.lM (xs:=[pV Xv 0]) 0 uZ rfl rfl rfl) Tryz.underlying105 Es rfl (by decide) (bX rfl) (by simp only [maxLen];omega) (by omega) rfl ?_;intro A68 c69 w70 aLR aLS uw;refine zN 2 ?_;refine jL 13 uw Gc ?_ (hs:=by exact adP);intro w74 Hq;refine zN 4 ?_;refine vv (v:=iV 4) gu ?_;refine zN 2 ?_;refine qA (mR (aH (aC (vv Dk ?_))));refine zN 17 ?_;refine vv (v:= .agg (dO 4 true (.slice none 0 0) 0 (.slice none 0 0) (λ_=>(⟨0,0⟩:Pl)) (λ_=>false) (.slice none 0 0) (.nilFunc) 0)) gF ?_;refine iP Hq ?_;intro b76 w77 Ib;refine zN 6 ?_;refine dz TD (nI Ib hu) ?_;rintro _ w80 ⟨rfl,aEx,vT⟩;refine ⟨_,rfl,?_⟩;refine zN 7 ?_;refine vv (aj rfl rfl (av Tryz.underlying105 rfl (St.cl 15 vT rfl AA))) ?_;refine zQ ?_;refine bsI vT ?_;intro b82 w83 DW;refine dw (news:=[pV b76 0]) (xs':=[gV b7,gV Uv,gV EM,gV Xv,gV b76]) 13 DW (wn rfl) rfl rfl rfl rfl rfl rfl (St.lM (xs:=[pV b76 0]) 0 DW rfl rfl rfl) Tryz.underlying105 Es rfl (by decide) (bX rfl) (by simp only [maxLen];omega) (by omega) rfl ?_;intro A85 c86 w87 aLT aLU Ox;refine zN 2 ?_;refine jL 16 Ox Gc ?_ (hs:=by exact adP);intro w91 zP;refine zN 4 ?_;refine vv (v:=iV 5) gu ?_;refine zN 2 ?_;refine qA (mR (aH (aC (vv amP ?_))));refine zN 17 ?_;have BU:St _ _ _ (_::_::_::_::_::_::_::_::_::_::_::_::_::_::_::_::_::fs):=zP.bK 13 rfl;have Gj:=BU.aU [12,9,6,3,0];have Jl:=Gj.nil 81 7;have EC:=Jl.nil 60 14;have Ch:=EC.nil 146 23;have DZ:=Ch.C8 146 23;have S99:=DZ.C8 146 23;have tX:=S99.C8 146 23;have xw:=tX.C8 146 23;have uH:=xw.C8 146 23;have qx:=uH.eF [16];have zn:=qx.eF [5];have tY:=zn.eF [10];have Dx:=tY.eF [10];have zm:=Dx.eF [7];have rQ:=zm.eF [12];have J3:=rQ.eF [12];have rO:=J3.eF [9];have ze:=rO.eF [14];have xk:=ze.eF [14];have mJ:=xk.eF [11];have Fu:=mJ.eF [16];have pJ:=Fu.eF [16];have xq:=pJ.eF [13];have AJ:=xq.eF [18];have vC:=AJ.eF [18];have pK:=vC.eF [18];have qO:=pK.eF [18];have Ay:=qO.eF [18];have Dq:=Ay.eF [19];refine ⟨⟨b4,anE b7 Uv EM Xv b76⟩,rfl,⟨λj=>⟨anE aEs aEu aEv aEw aEx j,none,0,uo,none,0,[],.nilFunc⟩,none,0,[],none,0,none,0,A85,c86,[.bI 1 A85 5 [gV b7,gV Uv,gV EM,gV Xv,gV b76]]⟩,?_,St.flip (gs:=[_,_,_,_,_,_,_,_,_,_,_,_,_,_,_,_,_,_,_,_]) (fs:=fs) Dq⟩;exact ⟨rfl,λx hx=>(by cases hx),λn hn=>⟨rfl,QL,Ro.none_,rfl,λy hy=>(by cases hy),rfl⟩,Ro.bI (List.mem_singleton.2 rfl),λx hx=>(by cases hx)⟩
section
variable {m mm:Cl} {n q k:Nat} {a:Ac} {PW:Pl×Int} {T S D K:Nat} {x:iD} {fl:List iD}
theorem al2 (h:bD m.off q=PW): ∃ nn,nn<5/\(PW.2=0->PW.1.node=((nn:Nat):Int)):=by
 subst h;by_cases c:(bD m.off q).2=0
 ·obtain ⟨h1,h2,_⟩:=vY (λh=>h c);exact ⟨_,h1,λ_=>by omega⟩
 exact ⟨0,by omega,λh=>absurd h c⟩
theorem ahR (h:fK m T S D K):fK { m with fly:=[] } (T+0) S (D+0) K:=by
 refine ⟨h.lJ,λl hl=>(by simp at hl),h.lS,?_,h.aP,h.bM,h.turn,h.calls⟩;have:=h.room;unfold Cl.tot at this⊢;dsimp only [List.length_nil];omega
theorem ahS (h:fl[k]? =some x):(fl.drop k).foldl Cl.come mm=(fl.drop (k+1)).foldl Cl.come (mm.come x):=by rw [drop_cons h,List.foldl_cons]
theorem ahT (h:a.kd=1) (hn:a.nd=((n:Nat):Int)) (hq:a.qu=((q:Nat):Int)):m.act a=m.make n q:=by
 unfold Cl.act;rw [if_pos h,hn,hq,Int.toNat_natCast,Int.toNat_natCast]
theorem ahU (h:a.kd=2) (hq:a.qu=((q:Nat):Int)):m.act a={ m with fly:=m.fly++[SK a.nd q a.op m.calls],calls:=m.calls+1 }:=by
 unfold Cl.act;rw [if_neg (by omega),if_pos h,hq,Int.toNat_natCast]
theorem ahV (h:a.kd=3) (hn:a.nd=((n:Nat):Int)):m.act a=m.step n:=by
 unfold Cl.act;rw [if_neg (by omega),if_neg (by omega),if_pos h,hn,Int.toNat_natCast]
theorem LH (h:a.kd=4\/a.kd=5\/a.kd=6):m.act a=m.pick a.at_.toNat (decide (a.kd≠5)) (decide (a.kd=6)):=by
 unfold Cl.act;rw [if_neg (by omega),if_neg (by omega),if_neg (by omega),if_pos h]
theorem al3 (h:a.kd=4):m.act a=m.pick a.at_.toNat true false:=by rw [LH (.inl h),h];rfl
theorem al4 (h:a.kd=5):m.act a=m.pick a.at_.toNat false false:=by rw [LH (.inr (.inl h)),h];rfl
theorem al5 (h:a.kd=6):m.act a=m.pick a.at_.toNat true true:=by rw [LH (.inr (.inr h)),h];rfl
theorem al6 (h:a.kd=7):m.act a=m.all:=by
 unfold Cl.act;rw [if_neg (by omega),if_neg (by omega),if_neg (by omega),if_neg (by omega),if_pos h]
theorem Ir (h:a.kd=8) (hn:a.nd=((n:Nat):Int)):m.act a=m.crash n a.kp:=by
 unfold Cl.act;rw [if_neg (by omega),if_neg (by omega),if_neg (by omega),if_neg (by omega),if_neg (by omega),if_pos h,hn,Int.toNat_natCast]
theorem adQ (h:a.kd=9) (hn:a.nd=((n:Nat):Int)):m.act a=m.start n:=by
 unfold Cl.act;rw [if_neg (by omega),if_neg (by omega),if_neg (by omega),if_neg (by omega),if_neg (by omega),if_neg (by omega),if_pos h,hn,Int.toNat_natCast]
theorem adR (h:a.kd≠1) (h2:a.kd≠2) (h3:a.kd≠3) (h4:a.kd≠4) (h5:a.kd≠5) (h6:a.kd≠6) (h7:a.kd≠7) (h8:a.kd≠8) (h9:a.kd≠9) (hq:a.qu=((q:Nat):Int)):m.act a=m.move q a.nd:=by
 unfold Cl.act;rw [if_neg h,if_neg h2,if_neg h3,if_neg (by omega),if_neg h7,if_neg h8,if_neg h9,hq,Int.toNat_natCast]
theorem Vm (h:(m.ah n).up=true) {kp:Int}:m.crash n kp=m.put n ((m.ah n).crashed kp):=if_pos h
theorem QM (h:(m.ah n).up=false) {kp:Int}:m.crash n kp=m:=by
 unfold Cl.crash;rw [if_neg (by rw [h];simp)]
end
theorem ahW {K:CK} {B n kn kw:Nat} {w0 w:World} {fs:List Fact} {m:Cl} {H:List LX} {q k:Nat} {a:Ac} (hn:n<5) (hq:q<4) (hnd:a.nd=((n:Nat):Int)) (hqd:a.qu=((q:Nat):Int)) (hkn:K.nb n=kn) (dx:K.wb=kw) (hu:Uk B w0) (HW:Wd K B w0 w fs m H) (q9:fK m (4*k) (500000*k) (500000*k) k) (hk:k<=100000) (ha:Ke a) (hsh:ShN m):
    Calls Tryz.prog 37 #[pV kw 0,.agg #[iV a.kd,iV a.nd,iV a.qu,iV a.at_,iV a.kp,iV a.ek,iV a.ep,iV a.ei,iV a.eb,iV a.eh,iV a.en]] w (λe w'=>e= .returned (.tuple #[])/\Wd K B w0 w' fs (m.act a) H):=by
 obtain ⟨R,G,S0⟩:=HW.open hn;have hfl:R.fx.length=m.fly.length:=by rw [<-G.fly,List.length_map]
 have NG:=G.lJ n hn;obtain ⟨X,hX⟩: ∃ X,m.ah n=X:=⟨_,rfl⟩;obtain ⟨z,hz⟩: ∃ z,R.nx n=z:=⟨_,rfl⟩;rw [hX,hz] at S0 NG;have hL: ∀ f∈R.L,f∈gI K R m fs n:=λf h=>List.mem_append_right _ (List.mem_append_right _ h);obtain ⟨rr,hrr⟩: ∃ r,gI K R m fs n=r:=⟨_,rfl⟩;rw [hrr] at S0 hL;have S:St B w0 w ((bN kn n X.up z.tA X.data z.tc X.syn z.bb X.hints X.sure z.iA z.ix z.ic z.pv X.turn)::(oB z.bb z.bx)::(fL z.iA z.ix z.ic)::(bW kw (.slice R.nA 5 R.nc) m.off R.fA R.fx R.fc m.shown R.sA m.aP R.sc R.tA m.bM R.tc m.calls)::(oL R.fA R.fx R.fc)::(oS R.sA m.aP R.sc)::(oT R.tA m.bM R.tc)::rr):=by subst hkn;subst dx;exact S0
 clear S0 HW;have hlen:=(S.own 1 rfl).1;rw [gQ (sz:=6) (λ_=>rfl)] at hlen;obtain ⟨ab,ao,qZ⟩:=Cw G.arr S (memT 7 rfl hL);have harr:=G.arr;rw [qZ] at S harr;have hcl:=q9.calls;have aLV:=q9.fl;have apn:a.at_=((a.at_.toNat:Nat):Int):=by have:=ha.at_;omega
 refine gq 144 Tryz.func37 ?_;refine cw [0,1] ?_;refine zN 2 ?_;refine iP S ?_;intro b1 w2 S3;refine zN 11 ?_;by_cases h4:a.kd=1
 ·refine zN 5 ?_;have S5:St B w0 w2 [.blk b1 #[iV a.kd,iV a.nd,iV a.qu,iV a.at_,iV a.kp,iV a.ek,iV a.ep,iV a.ei,iV a.eb,iV a.eh,iV a.en] 69]:=S3.sub (List.Sublist.cons_cons _ (List.nil_sublist _));have XC:=S3.drew;have S6:=S5.drew;refine aN 12 S6 [] ?_;refine aO 5 ?_;refine ak (v:=iV ((n:Nat):Int)) 6 rfl S6 (λ_ apc=>(Cx hnd (aj rfl rfl (av Tryz.underlying3 rfl (St.cl 0 apc rfl rfl))))) ?_;refine dn ?_;refine ak (v:=iV ((q:Nat):Int)) 10 rfl S6 (λ_ aoi=>(Cx hqd (aj rfl rfl (av Tryz.underlying3 rfl (St.cl 0 aoi rfl rfl))))) ?_;refine aZ 4 ?_;refine iG (i:=4) rfl rfl (v:= .slice (aD ab ao) 5 R.nc) (wn rfl) rfl rfl (aj rfl rfl (av Tryz.underlying105 rfl (St.cl 4 XC rfl AA))) ?_;refine dn ?_;refine ak 7 rfl S6 (λ_ _=>jI n) ?_;refine aZ 8 ?_;refine iG (i:=8) rfl rfl (v:=pV kn 0) (wn rfl) rfl rfl (aj rfl rfl (av Tryz.underlying113 rfl (hkn▸wP harr hn XC (memT 8 rfl hL)))) ?_;refine dn ?_;refine aZ 11 ?_;have l6:=XC.eF [7,7,7,7,7,7,7];have jl:=l6;rw [<-qZ] at jl;have apm:=Wd.dQ (m:=m) (m':=m) (H:=H) (H':=H) (fs:=(.blk b1 #[iV a.kd,iV a.nd,iV a.qu,iV a.at_,iV a.kp,iV a.ek,iV a.ep,iV a.ei,iV a.eb,iV a.eh,iV a.en] 69)::fs) (X':=X) (z':=z) (Ls:=[]) (fA:=R.fA) (fc:=R.fc) (fx:=R.fx) (sA:=R.sA) (sc:=R.sc) (tA:=R.tA) (tc:=R.tc) (rr:=(.blk b1 #[iV a.kd,iV a.nd,iV a.qu,iV a.at_,iV a.kp,iV a.ek,iV a.ep,iV a.ei,iV a.eb,iV a.eh,iV a.en] 69)::rr) hkn dx (by rw [<-hrr]<;>rfl) G hn jl NG.more (λu hu=> .inl hu) (aL hX).symm G.fly.symm mI;refine jw 11 rfl aAc (ZH hn hkn dx hu (by have:=q9.fl;omega) (by have:=q9.aP;omega) hq apm (q9.lJ n hn).mO (λrs d h=>(q9.lJ n hn).aDJ h)) ?_;rintro _ Ou ⟨rfl,avm⟩;refine ⟨_,rfl,?_⟩;have lH:=Wd.xK (gs:=[.blk b1 #[iV a.kd,iV a.nd,iV a.qu,iV a.at_,iV a.kp,iV a.ek,iV a.ep,iV a.ei,iV a.eb,iV a.eh,iV a.en] 69]) avm;refine aO 2 ?_;refine cK (l':=[]) trivial (iE (bC (rs:=[]) (vs:=[]) rfl trivial ?_));rw [ahT (by assumption) hnd hqd];exact ⟨rfl,(Wd.less (gs:=[.blk b1 #[iV a.kd,iV a.nd,iV a.qu,iV a.at_,iV a.kp,iV a.ek,iV a.ep,iV a.ei,iV a.eb,iV a.eh,iV a.en] 69]) avm)⟩
 refine zN 7 ?_;by_cases h22:a.kd=2
 ·refine zN 6 ?_;have nP:=S3.eF [5,5];have jS:=nP.drew;refine aN 14 jS [1,0] ?_;refine aO 4 ?_;refine ak (v:=iV ((q:Nat):Int)) 4 rfl (jS.qp [1,0]) (λ_ adu=>(Cx hqd (aj rfl rfl (av Tryz.underlying3 rfl (St.cl 0 adu rfl rfl))))) ?_;refine dn ?_;refine ak (v:= .agg #[iV a.ek,iV a.ep,iV a.ei,iV a.eb,iV a.eh,iV a.en]) 6 rfl (jS.qp [1,0]) (λ_ ab5=>(aj rfl rfl (aA (cs:=[iV a.ek,iV a.ep,iV a.ei,iV a.eb,iV a.eh,iV a.en]) Tryz.underlying55 rfl iC rfl (St.rg 0 ab5 rfl (kW (x:=5) (m:=6) rfl))))) ?_;refine aO 4 ?_;refine aZ 11 ?_;refine iG (i:=11) rfl rfl (v:=iV ((m.calls:Nat):Int)) (wn rfl) rfl rfl (aj rfl rfl (av Tryz.underlying3 rfl (St.cl 0 jS rfl am7))) ?_;refine dn ?_;refine ak (v:= .agg #[iV 0,iV (-1),iV a.nd,iV ((q:Nat):Int),iV 0,iV 0,iV 0,iV a.ek,iV a.ep,iV a.ei,iV a.eb,iV a.eh,iV a.en,.slice none 0 0,.bool false,iV ((m.calls:Nat):Int),iV 0,iV 0,iV 0,iV 0,iV 0,iV 0,iV 0]) 12 rfl (jS.qp [1,0]) (λ_ _=>gF) ?_;refine aZ 13 ?_;refine jw 13 rfl yY (gY (x:=⟨SK a.nd q a.op m.calls,none,0⟩) jS (by have:=q9.fl;omega)) ?_;rintro _ w41 ⟨rfl,A37,c38,aue,aoH,qV⟩;refine ⟨_,rfl,?_⟩;refine aO 2 ?_;refine zN 6 ?_;refine vv (aj rfl rfl (av Tryz.underlying3 rfl (St.cl 0 qV rfl am7))) ?_;refine vv (v:=iV ((m.calls+1:Nat):Int)) gu ?_;refine zN 3 ?_;refine jL 0 qV nM ?_ (hs:=by exact axa);intro w43 DV;refine zQ ?_;refine cK (l':=[]) trivial (iE (bC (rs:=[]) (vs:=[]) rfl trivial ?_));rw [ahU (by assumption) hqd];subst aoH;have ou:=DV.aU [2];have qW:=ou.eF [6,6,3,3,6,6,6];rw [<-qZ] at qW;exact ⟨rfl,Wd.dQ (X':=X) (z':=z) (Ls:=[]) (fA:=A37) (fc:=c38) (fx:=R.fx++[(⟨SK a.nd q a.op m.calls,none,0⟩:LX)]) (sA:=R.sA) (sc:=R.sc) (tA:=R.tA) (tc:=R.tc) hkn dx hrr G hn qW NG.more (oM (jh rfl)) (aL hX).symm (by rw [List.map_append,G.fly];rfl) mI⟩
 refine zN 7 ?_;by_cases h47:a.kd=3
 ·refine zN 5 ?_;have rJ:St B w0 w2 [.blk b1 #[iV a.kd,iV a.nd,iV a.qu,iV a.at_,iV a.kp,iV a.ek,iV a.ep,iV a.ei,iV a.eb,iV a.eh,iV a.en] 69]:=S3.sub (List.Sublist.cons_cons _ (List.nil_sublist _));have XC:=S3.drew;have uz:=rJ.drew;refine aN 10 uz [] ?_;refine aO 5 ?_;refine ak (v:=iV ((n:Nat):Int)) 6 rfl uz (λ_ aoJ=>(Cx hnd (aj rfl rfl (av Tryz.underlying3 rfl (St.cl 0 aoJ rfl rfl))))) ?_;refine aZ 4 ?_;refine iG (i:=4) rfl rfl (v:= .slice (aD ab ao) 5 R.nc) (wn rfl) rfl rfl (aj rfl rfl (av Tryz.underlying105 rfl (St.cl 4 XC rfl AA))) ?_;refine dn ?_;refine ak 7 rfl uz (λ_ _=>jI n) ?_;refine aZ 8 ?_;refine iG (i:=8) rfl rfl (v:=pV kn 0) (wn rfl) rfl rfl (aj rfl rfl (av Tryz.underlying113 rfl (hkn▸wP harr hn XC (memT 8 rfl hL)))) ?_;refine dn ?_;refine aZ 9 ?_;have rP:=XC.eF [7,7,7,7,7,7,7];have yB:=rP;rw [<-qZ] at yB;have aEy:=Wd.dQ (m:=m) (m':=m) (H:=H) (H':=H) (fs:=(.blk b1 #[iV a.kd,iV a.nd,iV a.qu,iV a.at_,iV a.kp,iV a.ek,iV a.ep,iV a.ei,iV a.eb,iV a.eh,iV a.en] 69)::fs) (X':=X) (z':=z) (Ls:=[]) (fA:=R.fA) (fc:=R.fc) (fx:=R.fx) (sA:=R.sA) (sc:=R.sc) (tA:=R.tA) (tc:=R.tc) (rr:=(.blk b1 #[iV a.kd,iV a.nd,iV a.qu,iV a.at_,iV a.kp,iV a.ek,iV a.ep,iV a.ei,iV a.eb,iV a.eh,iV a.en] 69)::rr) hkn dx (by rw [<-hrr]<;>rfl) G hn yB NG.more (λu hu=> .inl hu) (aL hX).symm G.fly.symm mI;refine jw 9 rfl aAd (ZG hn hkn dx hu (by have:=q9.fi hn;omega) (by have:=q9.aP;have:=q9.il hn;omega) (by have:=q9.turn n hn;omega) aEy (q9.lJ n hn).mO (λl hl=>FK (q9.lS n hn l hl)) (λp h=>(q9.lJ n hn).fit h)) ?_;rintro _ w61 ⟨rfl,avn⟩;refine ⟨_,rfl,?_⟩;have H7:=Wd.xK (gs:=[.blk b1 #[iV a.kd,iV a.nd,iV a.qu,iV a.at_,iV a.kp,iV a.ek,iV a.ep,iV a.ei,iV a.eb,iV a.eh,iV a.en] 69]) avn;refine aO 2 ?_;refine cK (l':=[]) trivial (iE (bC (rs:=[]) (vs:=[]) rfl trivial ?_));rw [ahV (by assumption) hnd];exact ⟨rfl,(Wd.less (gs:=[.blk b1 #[iV a.kd,iV a.nd,iV a.qu,iV a.at_,iV a.kp,iV a.ek,iV a.ep,iV a.ei,iV a.eb,iV a.eh,iV a.en] 69]) avn)⟩
 refine zN 8 ?_;by_cases h63:a.kd=4
 ·refine zN 11 ?_;refine vv (v:=iV ((a.at_.toNat:Nat):Int)) (Cx apn (aj rfl rfl (av Tryz.underlying3 rfl (St.cl 0 S3 rfl rfl)))) ?_;refine zN 6 ?_;have S64:=S3.eF [7,7,7,7,7,7,7];have Eu:=S64;rw [<-qZ] at Eu;have aiS:=Wd.dQ (m:=m) (m':=m) (H:=H) (H':=H) (fs:=(.blk b1 #[iV a.kd,iV a.nd,iV a.qu,iV a.at_,iV a.kp,iV a.ek,iV a.ep,iV a.ei,iV a.eb,iV a.eh,iV a.en] 69)::fs) (X':=X) (z':=z) (Ls:=[]) (fA:=R.fA) (fc:=R.fc) (fx:=R.fx) (sA:=R.sA) (sc:=R.sc) (tA:=R.tA) (tc:=R.tc) (rr:=(.blk b1 #[iV a.kd,iV a.nd,iV a.qu,iV a.at_,iV a.kp,iV a.ek,iV a.ep,iV a.ei,iV a.eb,iV a.eh,iV a.en] 69)::rr) hkn dx (by rw [<-hrr]<;>rfl) G hn Eu NG.more (λu hu=> .inl hu) (aL hX).symm G.fly.symm mI;refine dz anZ (Eh hn hkn dx hu (by have:=q9.fl;omega) (by have:=q9.bM;omega) (λj hj=>by have:=q9.il hj;omega) aiS (λl hl=>(q9.wM l hl).tgt)) ?_;rintro _ w68 ⟨rfl,adn⟩;refine ⟨_,rfl,?_⟩;have u7:=Wd.xK (gs:=[.blk b1 #[iV a.kd,iV a.nd,iV a.qu,iV a.at_,iV a.kp,iV a.ek,iV a.ep,iV a.ei,iV a.eb,iV a.eh,iV a.en] 69]) adn;refine zQ ?_;refine cK (l':=[]) trivial (iE (bC (rs:=[]) (vs:=[]) rfl trivial ?_));rw [al3 (by assumption)];exact ⟨rfl,(Wd.less (gs:=[.blk b1 #[iV a.kd,iV a.nd,iV a.qu,iV a.at_,iV a.kp,iV a.ek,iV a.ep,iV a.ei,iV a.eb,iV a.eh,iV a.en] 69]) adn)⟩
 refine zN 7 ?_;by_cases h70:a.kd=5
 ·refine zN 11 ?_;refine vv (v:=iV ((a.at_.toNat:Nat):Int)) (Cx apn (aj rfl rfl (av Tryz.underlying3 rfl (St.cl 0 S3 rfl rfl)))) ?_;refine zN 6 ?_;have uw:=S3.eF [7,7,7,7,7,7,7];have uR:=uw;rw [<-qZ] at uR;have aEz:=Wd.dQ (m:=m) (m':=m) (H:=H) (H':=H) (fs:=(.blk b1 #[iV a.kd,iV a.nd,iV a.qu,iV a.at_,iV a.kp,iV a.ek,iV a.ep,iV a.ei,iV a.eb,iV a.eh,iV a.en] 69)::fs) (X':=X) (z':=z) (Ls:=[]) (fA:=R.fA) (fc:=R.fc) (fx:=R.fx) (sA:=R.sA) (sc:=R.sc) (tA:=R.tA) (tc:=R.tc) (rr:=(.blk b1 #[iV a.kd,iV a.nd,iV a.qu,iV a.at_,iV a.kp,iV a.ek,iV a.ep,iV a.ei,iV a.eb,iV a.eh,iV a.en] 69)::rr) hkn dx (by rw [<-hrr]<;>rfl) G hn uR NG.more (λu hu=> .inl hu) (aL hX).symm G.fly.symm mI;refine dz anZ (Eh hn hkn dx hu (by have:=q9.fl;omega) (by have:=q9.bM;omega) (λj hj=>by have:=q9.il hj;omega) aEz (λl hl=>(q9.wM l hl).tgt)) ?_;rintro _ w75 ⟨rfl,avo⟩;refine ⟨_,rfl,?_⟩;have Hr:=Wd.xK (gs:=[.blk b1 #[iV a.kd,iV a.nd,iV a.qu,iV a.at_,iV a.kp,iV a.ek,iV a.ep,iV a.ei,iV a.eb,iV a.eh,iV a.en] 69]) avo;refine zQ ?_;refine cK (l':=[]) trivial (iE (bC (rs:=[]) (vs:=[]) rfl trivial ?_));rw [al4 (by assumption)];exact ⟨rfl,(Wd.less (gs:=[.blk b1 #[iV a.kd,iV a.nd,iV a.qu,iV a.at_,iV a.kp,iV a.ek,iV a.ep,iV a.ei,iV a.eb,iV a.eh,iV a.en] 69]) avo)⟩
 refine zN 6 ?_;by_cases h77:a.kd=6
 ·refine zN 8 ?_;refine vv (v:=iV ((a.at_.toNat:Nat):Int)) (Cx apn (aj rfl rfl (av Tryz.underlying3 rfl (St.cl 0 S3 rfl rfl)))) ?_;refine zN 6 ?_;have Ib:=S3.eF [7,7,7,7,7,7,7];have Cj:=Ib;rw [<-qZ] at Cj;have aEA:=Wd.dQ (m:=m) (m':=m) (H:=H) (H':=H) (fs:=(.blk b1 #[iV a.kd,iV a.nd,iV a.qu,iV a.at_,iV a.kp,iV a.ek,iV a.ep,iV a.ei,iV a.eb,iV a.eh,iV a.en] 69)::fs) (X':=X) (z':=z) (Ls:=[]) (fA:=R.fA) (fc:=R.fc) (fx:=R.fx) (sA:=R.sA) (sc:=R.sc) (tA:=R.tA) (tc:=R.tc) (rr:=(.blk b1 #[iV a.kd,iV a.nd,iV a.qu,iV a.at_,iV a.kp,iV a.ek,iV a.ep,iV a.ei,iV a.eb,iV a.eh,iV a.en] 69)::rr) hkn dx (by rw [<-hrr]<;>rfl) G hn Cj NG.more (λu hu=> .inl hu) (aL hX).symm G.fly.symm mI;refine dz anZ (Eh hn hkn dx hu (by have:=q9.fl;omega) (by have:=q9.bM;omega) (λj hj=>by have:=q9.il hj;omega) aEA (λl hl=>(q9.wM l hl).tgt)) ?_;rintro _ w82 ⟨rfl,avp⟩;refine ⟨_,rfl,?_⟩;have Ce:=Wd.xK (gs:=[.blk b1 #[iV a.kd,iV a.nd,iV a.qu,iV a.at_,iV a.kp,iV a.ek,iV a.ep,iV a.ei,iV a.eb,iV a.eh,iV a.en] 69]) avp;refine zQ ?_;refine cK (l':=[]) trivial (iE (bC (rs:=[]) (vs:=[]) rfl trivial ?_));rw [al5 (by assumption)];exact ⟨rfl,(Wd.less (gs:=[.blk b1 #[iV a.kd,iV a.nd,iV a.qu,iV a.at_,iV a.kp,iV a.ek,iV a.ep,iV a.ei,iV a.eb,iV a.eh,iV a.en] 69]) avp)⟩
 refine zN 7 ?_;by_cases h84:a.kd=7
 ·refine zN 10 ?_;refine vv (aj rfl rfl (av Tryz.underlying106 rfl (St.cl 4 S3 rfl TV))) ?_;refine zN 8 ?_;refine jL 4 S3 CY ?_ (hs:=by exact aoE);intro w85 Cm;refine zN 10 ?_;have EA:=Cm.aU [0];have Ox:=EA.nil 146 23;have KE:=((((((((Ox.bring 5 rfl).bring 7 rfl).bring 7 rfl).bring 3 rfl).bring 7 rfl).bring 7 rfl).bring 7 rfl).bring 7 rfl);rw [<-qZ] at KE;obtain ⟨m1,hm1⟩: ∃ k,k=({ m with fly:=[] }:Cl):=⟨_,rfl⟩;have HW1:Wd K B w0 w85 ((oL R.fA R.fx R.fc)::fs) m1 (R.fx++H):=by
   rw [hm1];exact Wd.dQ (m:=m) (H:=H) (fs:=(oL R.fA R.fx R.fc)::fs) (X':=X) (z':=z) (Ls:=[]) (fA:=none) (fc:=0) (fx:=[]) (sA:=R.sA) (sc:=R.sc) (tA:=R.tA) (tc:=R.tc) (rr:=(oL R.fA R.fx R.fc)::rr) hkn dx (by rw [<-hrr];rfl) G hn KE NG.more (λu hu=>by simp at hu) (aL hX).symm rfl (λu hu=>(List.mem_append.1 hu).elim (λh=> .inr ((G.flo u h).mono λf hf=>List.mem_append_left _ hf)) .inl)
  have hB0:=ahR q9;rw [<-hm1] at hB0;refine cZ (X:=Nat×Cl) (λxv=>[(0,pV kw 0),(90,.slice R.fA R.fx.length R.fc),(91,iV ((R.fx.length:Nat):Int)),(92,iV ((xv.1:Nat):Int))]) (λxv wr=>(Wd K B w0 wr ((oL R.fA R.fx R.fc)::fs) xv.2 (R.fx.drop xv.1++H))/\(m.fly.foldl Cl.come m1=(m.fly.drop xv.1).foldl Cl.come xv.2)/\(xv.1<=R.fx.length)/\(fK xv.2 (4*k+xv.1) (500000*k) (500000*k+xv.1) k)/\St B w0 wr [.own 146 23 (.slice R.fA R.fx.length R.fc) R.fx.length ((R.fx).flatMap LX.cells)]) (λxv=>R.fx.length-xv.1) (0,m1) ?_ ?_ ?_
  ·exact ⟨HW1,rfl,Nat.zero_le _,hB0,Wd.xK (gs:=[.own 146 23 (.slice R.fA R.fx.length R.fc) R.fx.length ((R.fx).flatMap LX.cells)]) HW1⟩
  ·exact ⟨rfl,rfl,rfl,rfl,trivial⟩
  rintro ⟨k2,mm⟩ w90 ⟨apo,apq,aEB,adS,KF⟩
  try dsimp only at apo apq aEB adS KF
  refine bq (l':=[(0,pV kw 0),(90,.slice R.fA R.fx.length R.fc),(91,iV ((R.fx.length:Nat):Int)),(92,iV ((k2:Nat):Int))]) ⟨rfl,rfl,rfl,rfl,trivial⟩ ?_;obtain ⟨R3,G3,Xz⟩:=apo.open hn;have Vl:=G3.lJ n hn;obtain ⟨X3,Cy⟩: ∃ X,mm.ah n=X:=⟨_,rfl⟩;obtain ⟨z3,hz3⟩: ∃ z,R3.nx n=z:=⟨_,rfl⟩;rw [Cy,hz3] at Xz Vl;obtain ⟨rr3,Kk⟩: ∃ r,gI K R3 mm fs n=r:=⟨_,rfl⟩;have EC:St B w0 w90 ((bN kn n X3.up z3.tA X3.data z3.tc X3.syn z3.bb X3.hints X3.sure z3.iA z3.ix z3.ic z3.pv X3.turn)::(oB z3.bb z3.bx)::(fL z3.iA z3.ix z3.ic)::(bW kw (.slice R3.nA 5 R3.nc) mm.off R3.fA R3.fx R3.fc mm.shown R3.sA mm.aP R3.sc R3.tA mm.bM R3.tc mm.calls)::(oL R3.fA R3.fx R3.fc)::(oS R3.sA mm.aP R3.sc)::(oT R3.tA mm.bM R3.tc)::(oL R.fA R.fx R.fc)::rr3):=by rw [<-Kk];subst hkn;subst dx;exact Xz
  clear Xz;refine zN 2 ?_;by_cases h97:((k2:Nat):Int)< ((R.fx.length:Nat):Int)
  ·refine zN 10 ?_;obtain ⟨x,hx⟩: ∃ x,R.fx[k2]? =some x:=⟨_,List.getElem?_eq_getElem (by omega)⟩;have hxf:m.fly[k2]? =some x.l:=by rw [<-G.fly,List.getElem?_map,hx];rfl
   have hxb:=q9.wM x.l (List.mem_of_getElem? hxf);refine zQ ?_;obtain ⟨fb,fo,hfA⟩:=rd_some (St.ord 7 EC rfl) (by omega);refine vv (v:=pV fb (fo+k2*23)) (aJ rfl rfl rfl (jr k2 hfA Tryz.underlying106 yg (by omega) (by omega))) ?_;refine vv (v:= .agg (LX.row x)) (aj rfl rfl (aA (cs:=LX.cells x) Tryz.underlying146 rfl yg rfl (λj u hu=>by rw [Nat.add_assoc];exact Ki (St.ord 7 EC rfl) hfA (aX (enc:=LX.cells) (sz:=23) (k:=k2) (λ_=>rfl) hx hu)))) ?_;refine fJ EC aew ?_;intro b98 w99 tX;refine stA 0 tX yg ?_ (h1:=EG _);intro att uH;refine zN 5 ?_;have qx:=uH.aU [0];have ax5:=Wd.dQ (m:=mm) (m':=mm) (H:=R.fx.drop k2++H) (H':=x::(R.fx.drop (k2+1)++H)) (fs:=(oL R.fA R.fx R.fc)::fs) (X':=X3) (z':=z3) (Ls:=[]) (fA:=R3.fA) (fc:=R3.fc) (fx:=R3.fx) (sA:=R3.sA) (sc:=R3.sc) (tA:=R3.tA) (tc:=R3.tc) (rr:=(oL R.fA R.fx R.fc)::rr3) hkn dx (by rw [<-Kk];rfl) G3 hn ((((((((qx.bring 7 rfl).bring 7 rfl).bring 7 rfl).bring 7 rfl).bring 7 rfl).bring 7 rfl).bring 7 rfl).bring 7 rfl) Vl.more (λu hu=> .inl hu) (aL Cy).symm G3.fly.symm (by rw [drop_cons hx];exact mI);obtain ⟨jj,hjj,htt⟩:=hxb.tgt;refine dz an0 (Ef (m:=mm) (x:=x) hjj rfl dx hu (by have:=(adS).fl;omega) (by have:=(adS).bM;omega) (by have:=(adS).il hjj;omega) ax5 htt) ?_;rintro _ acy ⟨rfl,aeI⟩;refine ⟨_,rfl,?_⟩;obtain ⟨mc,hmc⟩: ∃ k,k=mm.come x.l:=⟨_,rfl⟩;have zm:=Wd.xK (gs:=[.own 146 23 (.slice R.fA R.fx.length R.fc) R.fx.length ((R.fx).flatMap LX.cells)]) aeI;refine zN 4 ?_;refine vv (v:=iV ((k2+1:Nat):Int)) gu ?_;refine zN 2 ?_;refine aM (k2+1,mc) ?_ ⟨rfl,rfl,rfl,rfl,trivial⟩ (by first | omega | (dsimp only;omega));exact ⟨(by dsimp only;rw [hmc];exact aeI),(by dsimp only;rw [apq,ahS hxf,<-hmc]),(by dsimp only;omega),(by dsimp only;rw [hmc];exact (Im adS hxb).mono (by omega) (Nat.le_refl _) (by omega) (Nat.le_refl _)),(Wd.xK (gs:=[.own 146 23 (.slice R.fA R.fx.length R.fc) R.fx.length ((R.fx).flatMap LX.cells)]) (hmc▸aeI))⟩
  refine zN 11 ?_;have rH:m.act a=mm:=by rw [al6 (by assumption)];show m.fly.foldl Cl.come { m with fly:=[] }=mm;rw [<-hm1,apq,List.drop_eq_nil_of_le (by omega)];rfl
  rw [rH];have aEC:R.fx.length<=k2:=by omega
  exact ⟨rfl,Wd.less (gs:=[.own 146 23 (.slice R.fA R.fx.length R.fc) R.fx.length ((R.fx).flatMap LX.cells)]) (by have h9:=apo;rw [List.drop_eq_nil_of_le aEC] at h9;exact h9)⟩
 refine zN 7 ?_;by_cases ao4:a.kd=8
 ·refine zN 6 ?_;refine dR S3 mixed (by kernel_rfl) ?_;refine zN 3 ?_;refine uv (v:= .slice (aD ab ao) 5 R.nc) (λ_ ax6=>(aj rfl rfl (av Tryz.underlying105 rfl (St.cl 4 ax6 rfl AA)))) ?_;refine zQ ?_;refine uv (v:=iV ((n:Nat):Int)) (λ_ ax7=>(Cx hnd (aj rfl rfl (av Tryz.underlying3 rfl (St.cl 0 ax7 rfl rfl))))) ?_;refine uv (λ_ _=>jI n) ?_;refine uv (v:=pV kn 0) (λ_ aeJ=>(aj rfl rfl (av Tryz.underlying113 rfl (hkn▸wP harr hn aeJ (memT 8 rfl hL))))) ?_;refine zQ ?_;refine fC λaiW pK=>?_;refine zN 9 ?_
  cases aHA:(X.up)
  ·refine bq (l':=[(3,pV b1 0),(7,pV kn 0),(113,.bool false)]) ⟨rfl,rfl,rfl,trivial⟩ (lD rfl (qh (iE (bC (rs:=[]) (vs:=[]) rfl trivial ?_))));have Ay:=pK.aU [0];have Av:=Ay;rw [<-qZ] at Av;have ax8:=Wd.dQ (m:=m) (m':=m) (H:=H) (H':=H) (fs:=fs) (X':=X) (z':=z) (Ls:=[]) (fA:=R.fA) (fc:=R.fc) (fx:=R.fx) (sA:=R.sA) (sc:=R.sc) (tA:=R.tA) (tc:=R.tc) (rr:=rr) hkn dx (by rw [<-hrr]<;>rfl) G hn Av NG.more (λu hu=> .inl hu) (aL hX).symm G.fly.symm mI;rw [Ir (by assumption) hnd,QM (by rw [hX];assumption)];exact ⟨rfl,ax8⟩
  refine bq (l':=[(3,pV b1 0),(7,pV kn 0),(113,.bool true)]) ⟨rfl,rfl,rfl,trivial⟩ (l8 rfl (aH ?_));have QB:=pK.drew;refine aN 14 QB [1] ?_;refine aO 6 ?_;refine aZ 4 ?_;refine iG (i:=4) rfl rfl (v:= .agg #[.slice z.tA X.data.length z.tc,iV X.syn]) (wn rfl) rfl rfl (aj rfl rfl (aA (cs:=[.slice z.tA X.data.length z.tc,iV X.syn]) Tryz.underlying116 rfl fG rfl (St.rg 1 QB rfl (tH)))) ?_;refine dn ?_;refine aZ 7 ?_;refine jw 7 rfl aAe (BI (VG z.tA X.data.length z.tc X.data X.syn a.kp _ (NG.yH.rd QB (memT 8 rfl hL)))) ?_;rintro _ X0 ⟨ai2,apr,rfl,aED⟩;refine ⟨_,rfl,?_⟩;have yE:=QB.ext aED rfl;refine aO 6 ?_;refine aZ 13 ?_;refine snz (row':=dO n X.up (.slice ai2 ((lU X.data X.syn a.kp).1.length) apr) ((lU X.data X.syn a.kp).2.1) (.slice (aD z.bb 0) 4 4) X.hints X.sure (.slice z.iA z.ix.length z.ic) (z.pv) X.turn) 13 rfl 2 yE fG ?_;intro ao1 Fg;refine aO 2 ?_;refine zN 6 ?_;refine jL (row':=dO n false (.slice ai2 ((lU X.data X.syn a.kp).1.length) apr) ((lU X.data X.syn a.kp).2.1) (.slice (aD z.bb 0) 4 4) X.hints X.sure (.slice z.iA z.ix.length z.ic) (z.pv) X.turn) 2 Fg Hf ?_;intro avq Kl;refine zN 4 ?_;have Na:=Kl.eF [2];refine dz TD (nI Na hu) ?_;rintro _ aou ⟨rfl,ax9,zh⟩;refine ⟨_,rfl,?_⟩;have Aw:=zh.aU [5,4,3];refine zQ ?_;refine cK (l':=[]) trivial (iE (bC (rs:=[]) (vs:=[]) rfl trivial ?_));rw [Ir (by assumption) hnd,Vm (by rw [hX];assumption)];have QC:=Aw.C8 146 23;have Qk:=QC.eF [7,7,7,7,4,6,6];rw [<-qZ] at Qk;exact ⟨rfl,Wd.dQ (X':=X.crashed a.kp) (z':={ bb:=ax9,tA:=ai2,tc:=apr,bx:=uo,iA:=none,ic:=0,ix:=[],pv:= .nilFunc }) (Ls:=[.bI 1 ai2 ((lU X.data X.syn a.kp).1.length) (byteCells ((lU X.data X.syn a.kp).1))]) (fA:=R.fA) (fc:=R.fc) (fx:=R.fx) (sA:=R.sA) (sc:=R.sc) (tA:=R.tA) (tc:=R.tc) hkn dx hrr G hn Qk ⟨rfl,QL,Ro.bI (List.mem_append_right _ (List.mem_singleton.2 rfl)),rfl,λy hy=>(by cases hy),rfl⟩ (λu hu=> .inl hu) (by rw [hX];rfl) G.fly.symm mI⟩
 refine zN 7 ?_;by_cases aLW:a.kd=9
 ·refine zN 5 ?_;have ao3:St B w0 w2 [.blk b1 #[iV a.kd,iV a.nd,iV a.qu,iV a.at_,iV a.kp,iV a.ek,iV a.ep,iV a.ei,iV a.eb,iV a.eh,iV a.en] 69]:=S3.sub (List.Sublist.cons_cons _ (List.nil_sublist _));have XC:=S3.drew;have wu:=ao3.drew;refine aN 10 wu [] ?_;refine aO 5 ?_;refine ak (v:=iV ((n:Nat):Int)) 6 rfl wu (λ_ aez=>(Cx hnd (aj rfl rfl (av Tryz.underlying3 rfl (St.cl 0 aez rfl rfl))))) ?_;refine aZ 4 ?_;refine iG (i:=4) rfl rfl (v:= .slice (aD ab ao) 5 R.nc) (wn rfl) rfl rfl (aj rfl rfl (av Tryz.underlying105 rfl (St.cl 4 XC rfl AA))) ?_;refine dn ?_;refine ak 7 rfl wu (λ_ _=>jI n) ?_;refine aZ 8 ?_;refine iG (i:=8) rfl rfl (v:=pV kn 0) (wn rfl) rfl rfl (aj rfl rfl (av Tryz.underlying113 rfl (hkn▸wP harr hn XC (memT 8 rfl hL)))) ?_;refine dn ?_;refine aZ 9 ?_;have Fw:=XC.eF [7,7,7,7,7,7,7];have Yf:=Fw;rw [<-qZ] at Yf;have Yw:=Wd.dQ (m:=m) (m':=m) (H:=H) (H':=H) (fs:=(.blk b1 #[iV a.kd,iV a.nd,iV a.qu,iV a.at_,iV a.kp,iV a.ek,iV a.ep,iV a.ei,iV a.eb,iV a.eh,iV a.en] 69)::fs) (X':=X) (z':=z) (Ls:=[]) (fA:=R.fA) (fc:=R.fc) (fx:=R.fx) (sA:=R.sA) (sc:=R.sc) (tA:=R.tA) (tc:=R.tc) (rr:=(.blk b1 #[iV a.kd,iV a.nd,iV a.qu,iV a.at_,iV a.kp,iV a.ek,iV a.ep,iV a.ei,iV a.eb,iV a.eh,iV a.en] 69)::rr) hkn dx (by rw [<-hrr]<;>rfl) G hn Yf NG.more (λu hu=> .inl hu) (aL hX).symm G.fly.symm mI;refine jw 9 rfl aAf (WE hn hkn dx hu (by have:=q9.fl;omega) (by have:=q9.aP;omega) Yw (q9.lJ n hn).JF.1 (q9.lJ n hn).JF.2.1 (q9.lJ n hn).JF.2.2.1 (q9.lJ n hn).JF.2.2.2 hsh) ?_;rintro _ aBr ⟨rfl,anG⟩;refine ⟨_,rfl,?_⟩;have atn:=Wd.xK (gs:=[.blk b1 #[iV a.kd,iV a.nd,iV a.qu,iV a.at_,iV a.kp,iV a.ek,iV a.ep,iV a.ei,iV a.eb,iV a.eh,iV a.en] 69]) anG;refine aO 2 ?_;refine cK (l':=[]) trivial (iE (bC (rs:=[]) (vs:=[]) rfl trivial ?_));rw [adQ (by assumption) hnd];exact ⟨rfl,(Wd.less (gs:=[.blk b1 #[iV a.kd,iV a.nd,iV a.qu,iV a.at_,iV a.kp,iV a.ek,iV a.ep,iV a.ei,iV a.eb,iV a.eh,iV a.en] 69]) anG)⟩
 refine zN 8 ?_;refine vv (v:=iV ((q:Nat):Int)) (Cx hqd (aj rfl rfl (av Tryz.underlying3 rfl (St.cl 0 S3 rfl rfl)))) ?_;refine zN 2 ?_;obtain ⟨PW,wR⟩: ∃ r,bD m.off q=r:=⟨_,rfl⟩;obtain ⟨nn,hnn,hwn⟩:=al2 wR;have aps:=S3.eF [7,7,7,7,7,7,7];have X4:=aps;rw [<-qZ] at X4;have aya:=Wd.dQ (m:=m) (m':=m) (H:=H) (H':=H) (fs:=(.blk b1 #[iV a.kd,iV a.nd,iV a.qu,iV a.at_,iV a.kp,iV a.ek,iV a.ep,iV a.ei,iV a.eb,iV a.eh,iV a.en] 69)::fs) (X':=X) (z':=z) (Ls:=[]) (fA:=R.fA) (fc:=R.fc) (fx:=R.fx) (sA:=R.sA) (sc:=R.sc) (tA:=R.tA) (tc:=R.tc) (rr:=(.blk b1 #[iV a.kd,iV a.nd,iV a.qu,iV a.at_,iV a.kp,iV a.ek,iV a.ep,iV a.ei,iV a.eb,iV a.eh,iV a.en] 69)::rr) hkn dx (by rw [<-hrr]<;>rfl) G hn X4 NG.more (λu hu=> .inl hu) (aL hX).symm G.fly.symm mI;refine dz aAg (ZI hnn rfl dx hu (by have:=q9.fl;omega) (by have:=q9.aP;omega) hq aya (q9.lJ nn hnn).mO wR hwn) ?_;rintro _ aiN ⟨rfl,anH⟩;refine ⟨_,rfl,?_⟩;have AB:=Wd.xK (gs:=[.blk b1 #[iV a.kd,iV a.nd,iV a.qu,iV a.at_,iV a.kp,iV a.ek,iV a.ep,iV a.ei,iV a.eb,iV a.eh,iV a.en] 69]) anH;refine zQ ?_;refine cK (l':=[]) trivial (iE (bC (rs:=[]) (vs:=[]) rfl trivial ?_));rw [adR (by assumption) (by assumption) (by assumption) (by assumption) (by assumption) (by assumption) (by assumption) (by assumption) (by assumption) hqd];exact ⟨rfl,(Wd.less (gs:=[.blk b1 #[iV a.kd,iV a.nd,iV a.qu,iV a.at_,iV a.kp,iV a.ek,iV a.ep,iV a.ei,iV a.eb,iV a.eh,iV a.en] 69]) anH)⟩
theorem St.jW {B:Nat} {w0 w:World} {fs:List Fact} {b n s:Nat} {row:Array Value} {t:TypeId} {xs:List Value} (i:Nat) (S:St B w0 w fs) (hi:fs[i]? =some (.blk b row t)) (hx:row.toList=xs) (hl:xs.length=n*s):St B w0 w (fs.set i (.bI s (some ⟨b,0,none⟩) n xs)):=
 St.turn i S hi S.low (Nat.le_refl _) (λ_ _ _=>rfl) ⟨St.lM i S hi hx hl,λa h=>by cases h;exact ⟨St.ge i S hi,St.lt i S hi⟩⟩ (λk hk=> .inl hk)
def dL (g:Nat) (p:Nat×Int):List Value:=[.pointer (some ⟨g,p.1,none⟩),.int .i64 p.2]
def cO (kd ek:Int):ByteArray:=
 if kd=1 then ⟨#[109,97,107,101]⟩ else if kd=10 then ⟨#[109,111,118,101]⟩ else if kd=3 then ⟨#[115,116,101,112]⟩ else if kd=9 then ⟨#[115,116,97,114,116]⟩ else if kd=8 then ⟨#[99,114,97,115,104]⟩
 else if kd=4 then ⟨#[99,97,114,114,121]⟩ else if kd=5 then ⟨#[108,111,115,101]⟩ else if kd=6 then ⟨#[100,111,117,98,108,101]⟩ else if kd=7 then ⟨#[97,108,108]⟩
 else if kd=2 then (if ek=1 then ⟨#[112,117,98,108,105,115,104]⟩ else if ek=2 then ⟨#[114,101,99,101,105,118,101]⟩ else if ek=3 then ⟨#[97,99,107]⟩ else ⟨#[]⟩) else ⟨#[]⟩
def ahX (w:World) (g:Nat) (u:ByteArray) (r:Option (List (Nat×Int))) (e:Ending) (w':World):Prop:=match r with
 | none=>e= .returned (.tuple #[.string u,.slice none 0 0,.bool false])/\Below w.heap.size w w'
 | some l=> ∃ A,e= .returned (.tuple #[.string u,.slice A l.length l.length,.bool true])/\St w.heap.size w w' [.bI 2 A l.length (l.flatMap (dL g))]
theorem Ac.anI (x:Ac) {i:Nat} (h:i<11):x.cells.toArray[i]? =some (.int .i64 (x.get i)):=by rw [List.getElem?_toArray];exact x.cell h
theorem ZL (g:Nat) (x:Ac) (w:World) (h:Rd w w.heap.size 11 (aD g 0) 1 x.cells):
    Calls Tryz.prog 48 #[pV g 0] w (ahX w g (cO x.kd x.ek) (cu x.kd x.ek)):=by
 have S:=(St.start w).bU h;refine gq 111 Tryz.func48 ?_;refine cw [0] ?_;refine zN 8 ?_;have S1:=S.drew;refine JK (C:=λw'=>St w.heap.size w w' [.rd 11 (aD g 0) 1 x.cells]) (n:=12) (listed:= #[false,false,false,false,false,false,false,false,false,false,false,false]) mixed rfl rfl ?_;refine aO 3 ?_;refine ak (v:= .agg #[pV g 1,iV 4]) 3 rfl S1 (λ_ _=>gF) ?_;refine aO 3 ?_;refine ak (v:= .agg #[pV g 2,iV 3]) 7 rfl S1 (λ_ _=>gF) ?_;refine gM (n:=3) (r:=8) (s:=9) (by kernel_rfl) ?_ ?_
 ·refine lg 8 rfl S1 Gf ?_;intro b10 Cc kE;refine dn ?_;refine aZ 9 ?_;refine lg 9 rfl kE Gf ?_;intro b13 MB iH;refine dn ?_;refine aZ 10 ?_;refine sn 10 rfl 1 iH uQ ?_;intro w16 jM;refine dn ?_;refine aZ 11 ?_;refine sn 11 rfl 0 jM uQ ?_;intro DK jU;refine aO 2 ?_;refine zN 6 ?_;refine vv (v:= .agg #[pV g 3,iV 1048576]) gF ?_;refine fJ jU Gf ?_;intro b20 Gl iY;refine sa 0 iY uQ ?_;intro Mw jS;refine zN 8 ?_;refine vv (v:=iV x.kd) (aj rfl rfl (av Tryz.underlying3 rfl (Rd.cl (j:=0) (St.rd 3 jS rfl) rfl))) ?_;refine zN 5 ?_;by_cases vD:x.kd=1
  ·refine zN 6 ?_;have kJ:=jS.drew;refine aN 6 kJ [] ?_;refine aO 3 ?_;refine aZ 2 ?_;refine jf (i:=2) rfl rfl (V:=λb=> .slice (aD b 0) 2 2) (row:= #[pV g 2,iV 3,pV g 1,iV 4]) (t:=141) kJ (wn rfl) rfl rfl (bg (vs:=[(0,.agg #[pV g 2,iV 3]),(1,.agg #[pV g 1,iV 4])]) rfl ⟨rfl,rfl,rfl,rfl,trivial⟩ (by kernel_rfl)) ?_;intro b30 w31 qC;refine aO 4 ?_;refine zN 5 ?_;rw [show cO x.kd x.ek=⟨#[109,97,107,101]⟩ from by simp [cO,vD]];have pF:=qC.aU [4,3,2,1];rw [show cu x.kd x.ek=some [(2,3),(1,4)] from by simp [cu,vD]];exact ⟨_,rfl,St.jW (n:=2) (xs:=([(2,3),(1,4)]:List (Nat×Int)).flatMap (dL g)) 0 pF rfl rfl rfl⟩
  refine zN 7 ?_;by_cases yU:x.kd=10
  ·refine zN 6 ?_;have qL:=jS.drew;refine aN 6 qL [] ?_;refine aO 3 ?_;refine aZ 2 ?_;refine jf (i:=2) rfl rfl (V:=λb=> .slice (aD b 0) 2 2) (row:= #[pV g 2,iV 3,pV g 1,iV 4]) (t:=141) qL (wn rfl) rfl rfl (bg (vs:=[(0,.agg #[pV g 2,iV 3]),(1,.agg #[pV g 1,iV 4])]) rfl ⟨rfl,rfl,rfl,rfl,trivial⟩ (by kernel_rfl)) ?_;intro b41 Uw qB;refine aO 4 ?_;refine zN 5 ?_;rw [show cO x.kd x.ek=⟨#[109,111,118,101]⟩ from by simp [cO,vD,yU]];have qW:=qB.aU [4,3,2,1];rw [show cu x.kd x.ek=some [(2,3),(1,4)] from by simp [cu,vD,yU]];exact ⟨_,rfl,St.jW (n:=2) (xs:=([(2,3),(1,4)]:List (Nat×Int)).flatMap (dL g)) 0 qW rfl rfl rfl⟩
  refine zN 7 ?_;by_cases h47:x.kd=3
  ·refine zN 6 ?_;have rJ:=jS.drew;refine aN 5 rJ [] ?_;refine aO 2 ?_;refine aZ 1 ?_;refine Ho 1 rfl rJ ?_;intro b51 w52 vS;refine aO 4 ?_;refine zN 5 ?_;rw [show cO x.kd x.ek=⟨#[115,116,101,112]⟩ from by simp [cO,vD,yU,h47]];have Ew:=vS.aU [4,3,2,1];rw [show cu x.kd x.ek=some [(1,4)] from by simp [cu,vD,yU,h47]];exact ⟨_,rfl,St.jW (n:=1) (xs:=([(1,4)]:List (Nat×Int)).flatMap (dL g)) 0 Ew rfl rfl rfl⟩
  refine zN 7 ?_;by_cases h57:x.kd=9
  ·refine zN 6 ?_;have DT:=jS.drew;refine aN 5 DT [] ?_;refine aO 2 ?_;refine aZ 1 ?_;refine Ho 1 rfl DT ?_;intro b61 w62 wJ;refine aO 4 ?_;refine zN 5 ?_;rw [show cO x.kd x.ek=⟨#[115,116,97,114,116]⟩ from by simp [cO,vD,yU,h47,h57]];have Eu:=wJ.aU [4,3,2,1];rw [show cu x.kd x.ek=some [(1,4)] from by simp [cu,vD,yU,h47,h57]];exact ⟨_,rfl,St.jW (n:=1) (xs:=([(1,4)]:List (Nat×Int)).flatMap (dL g)) 0 Eu rfl rfl rfl⟩
  refine zN 7 ?_;by_cases Dc:x.kd=8
  ·refine zN 6 ?_;have yC:=jS.drew;refine aN 9 yC [] ?_;refine aO 4 ?_;refine ak (v:= .agg #[pV g 4,iV 100000]) 4 rfl yC (λ_ _=>gF) ?_;refine dn ?_;refine aZ 5 ?_;refine jf (i:=5) rfl rfl (V:=λb=> .slice (aD b 0) 2 2) (row:= #[pV g 1,iV 4,pV g 4,iV 100000]) (t:=141) yC (wn rfl) rfl rfl (bg (vs:=[(0,.agg #[pV g 1,iV 4]),(1,.agg #[pV g 4,iV 100000])]) rfl ⟨rfl,rfl,rfl,rfl,trivial⟩ (by kernel_rfl)) ?_;intro b75 w76 DL;refine aO 4 ?_;refine zN 5 ?_;rw [show cO x.kd x.ek=⟨#[99,114,97,115,104]⟩ from by simp [cO,vD,yU,h47,h57,Dc]];have Cj:=DL.aU [4,3,2,1];rw [show cu x.kd x.ek=some [(1,4),(4,100000)] from by simp [cu,vD,yU,h47,h57,Dc]];exact ⟨_,rfl,St.jW (n:=2) (xs:=([(1,4),(4,100000)]:List (Nat×Int)).flatMap (dL g)) 0 Cj rfl rfl rfl⟩
  refine zN 7 ?_;by_cases Ju:x.kd=4
  ·refine zN 6 ?_;have S82:=jS.drew;refine aN 5 S82 [] ?_;refine aO 2 ?_;refine aZ 1 ?_;refine Ho 1 rfl S82 ?_;intro b85 w86 EA;refine aO 4 ?_;refine zN 5 ?_;rw [show cO x.kd x.ek=⟨#[99,97,114,114,121]⟩ from by simp [cO,vD,yU,h47,h57,Dc,Ju]];have Xl:=EA.aU [4,3,2,1];rw [show cu x.kd x.ek=some [(3,1048576)] from by simp [cu,vD,yU,h47,h57,Dc,Ju]];exact ⟨_,rfl,St.jW (n:=1) (xs:=([(3,1048576)]:List (Nat×Int)).flatMap (dL g)) 0 Xl rfl rfl rfl⟩
  refine zN 7 ?_;by_cases Ic:x.kd=5
  ·refine zN 6 ?_;have zP:=jS.drew;refine aN 5 zP [] ?_;refine aO 2 ?_;refine aZ 1 ?_;refine Ho 1 rfl zP ?_;intro b95 w96 Ch;refine aO 4 ?_;refine zN 5 ?_;rw [show cO x.kd x.ek=⟨#[108,111,115,101]⟩ from by simp [cO,vD,yU,h47,h57,Dc,Ju,Ic]];have tX:=Ch.aU [4,3,2,1];rw [show cu x.kd x.ek=some [(3,1048576)] from by simp [cu,vD,yU,h47,h57,Dc,Ju,Ic]];exact ⟨_,rfl,St.jW (n:=1) (xs:=([(3,1048576)]:List (Nat×Int)).flatMap (dL g)) 0 tX rfl rfl rfl⟩
  refine zN 7 ?_;by_cases CB:x.kd=6
  ·refine zN 6 ?_;have uH:=jS.drew;refine aN 5 uH [] ?_;refine aO 2 ?_;refine aZ 1 ?_;refine Ho 1 rfl uH ?_;intro aLX acy zm;refine aO 4 ?_;refine zN 5 ?_;rw [show cO x.kd x.ek=⟨#[100,111,117,98,108,101]⟩ from by simp [cO,vD,yU,h47,h57,Dc,Ju,Ic,CB]];have rO:=zm.aU [4,3,2,1];rw [show cu x.kd x.ek=some [(3,1048576)] from by simp [cu,vD,yU,h47,h57,Dc,Ju,Ic,CB]];exact ⟨_,rfl,St.jW (n:=1) (xs:=([(3,1048576)]:List (Nat×Int)).flatMap (dL g)) 0 rO rfl rfl rfl⟩
  refine zN 7 ?_;by_cases FT:x.kd=7
  ·refine zN 16 ?_;rw [show cO x.kd x.ek=⟨#[97,108,108]⟩ from by simp [cO,vD,yU,h47,h57,Dc,Ju,Ic,CB,FT]];have xk:=jS.aU [3,2,1,0];rw [show cu x.kd x.ek=some [] from by simp [cu,vD,yU,h47,h57,Dc,Ju,Ic,CB,FT]];exact ⟨none,rfl,aI xk⟩
  refine zN 7 ?_;by_cases Kn:x.kd=2
  ·refine zN 18 ?_;refine vv (v:=iV x.ek) (aj rfl rfl (av Tryz.underlying3 rfl (Rd.cl (j:=5) (St.rd 3 jS rfl) rfl))) ?_;refine zN 5 ?_;by_cases Iq:x.ek=1
   ·refine zN 6 ?_;have pJ:=jS.drew;refine aN 18 pJ [] ?_;refine aO 5 ?_;refine ak (v:= .agg #[pV g 6,iV 3]) 5 rfl pJ (λ_ _=>gF) ?_;refine aO 3 ?_;refine ak (v:= .agg #[pV g 7,iV 1073741824]) 9 rfl pJ (λ_ _=>gF) ?_;refine aO 3 ?_;refine ak (v:= .agg #[pV g 8,iV 1000000]) 13 rfl pJ (λ_ _=>gF) ?_;refine dn ?_;refine aZ 14 ?_;refine jf (i:=14) rfl rfl (V:=λb=> .slice (aD b 0) 5 5) (row:= #[pV g 1,iV 4,pV g 2,iV 3,pV g 6,iV 3,pV g 7,iV 1073741824,pV g 8,iV 1000000]) (t:=141) pJ (wn rfl) rfl rfl (bg (vs:=[(0,.agg #[pV g 1,iV 4]),(1,.agg #[pV g 2,iV 3]),(2,.agg #[pV g 6,iV 3]),(3,.agg #[pV g 7,iV 1073741824]),(4,.agg #[pV g 8,iV 1000000])]) rfl ⟨rfl,rfl,rfl,rfl,rfl,rfl,rfl,rfl,rfl,rfl,trivial⟩ (by kernel_rfl)) ?_;intro aLY aDd TS;refine aO 4 ?_;refine zN 6 ?_;rw [show cO x.kd x.ek=⟨#[112,117,98,108,105,115,104]⟩ from by simp [cO,vD,yU,h47,h57,Dc,Ju,Ic,CB,FT,Kn,Iq]];have BZ:=TS.aU [4,3,2,1];rw [show cu x.kd x.ek=some [(1,4),(2,3),(6,3),(7,1073741824),(8,1000000)] from by simp [cu,vD,yU,h47,h57,Dc,Ju,Ic,CB,FT,Kn,Iq]];exact ⟨_,rfl,St.jW (n:=5) (xs:=([(1,4),(2,3),(6,3),(7,1073741824),(8,1000000)]:List (Nat×Int)).flatMap (dL g)) 0 BZ rfl rfl rfl⟩
   refine zN 7 ?_;by_cases Yy:x.ek=2
   ·refine zN 6 ?_;have Ca:=jS.drew;refine aN 6 Ca [] ?_;refine aO 3 ?_;refine aZ 2 ?_;refine jf (i:=2) rfl rfl (V:=λb=> .slice (aD b 0) 2 2) (row:= #[pV g 1,iV 4,pV g 2,iV 3]) (t:=141) Ca (wn rfl) rfl rfl (bg (vs:=[(0,.agg #[pV g 1,iV 4]),(1,.agg #[pV g 2,iV 3])]) rfl ⟨rfl,rfl,rfl,rfl,trivial⟩ (by kernel_rfl)) ?_;intro aiz avq Kl;refine aO 4 ?_;refine zN 6 ?_;rw [show cO x.kd x.ek=⟨#[114,101,99,101,105,118,101]⟩ from by simp [cO,vD,yU,h47,h57,Dc,Ju,Ic,CB,FT,Kn,Iq,Yy]];have TI:=Kl.aU [4,3,2,1];rw [show cu x.kd x.ek=some [(1,4),(2,3)] from by simp [cu,vD,yU,h47,h57,Dc,Ju,Ic,CB,FT,Kn,Iq,Yy]];exact ⟨_,rfl,St.jW (n:=2) (xs:=([(1,4),(2,3)]:List (Nat×Int)).flatMap (dL g)) 0 TI rfl rfl rfl⟩
   refine zN 7 ?_;by_cases ai3:x.ek=3
   ·refine zN 6 ?_;have Aw:=jS.drew;refine aN 16 Aw [] ?_;refine aO 6 ?_;refine ak (v:= .agg #[pV g 9,iV 1048576]) 6 rfl Aw (λ_ _=>gF) ?_;refine aO 4 ?_;refine ak (v:= .agg #[pV g 10,iV 1073741824]) 11 rfl Aw (λ_ _=>gF) ?_;refine dn ?_;refine aZ 12 ?_;refine jf (i:=12) rfl rfl (V:=λb=> .slice (aD b 0) 4 4) (row:= #[pV g 1,iV 4,pV g 2,iV 3,pV g 9,iV 1048576,pV g 10,iV 1073741824]) (t:=141) Aw (wn rfl) rfl rfl (bg (vs:=[(0,.agg #[pV g 1,iV 4]),(1,.agg #[pV g 2,iV 3]),(2,.agg #[pV g 9,iV 1048576]),(3,.agg #[pV g 10,iV 1073741824])]) rfl ⟨rfl,rfl,rfl,rfl,rfl,rfl,rfl,rfl,trivial⟩ (by kernel_rfl)) ?_;intro aLZ aov rT;refine aO 4 ?_;refine zN 6 ?_;rw [show cO x.kd x.ek=⟨#[97,99,107]⟩ from by simp [cO,vD,yU,h47,h57,Dc,Ju,Ic,CB,FT,Kn,Iq,Yy,ai3]];have aps:=rT.aU [4,3,2,1];rw [show cu x.kd x.ek=some [(1,4),(2,3),(9,1048576),(10,1073741824)] from by simp [cu,vD,yU,h47,h57,Dc,Ju,Ic,CB,FT,Kn,Iq,Yy,ai3]];exact ⟨_,rfl,St.jW (n:=4) (xs:=([(1,4),(2,3),(9,1048576),(10,1073741824)]:List (Nat×Int)).flatMap (dL g)) 0 aps rfl rfl rfl⟩
   refine zN 18 ?_;rw [show cO x.kd x.ek=⟨#[]⟩ from by simp [cO,vD,yU,h47,h57,Dc,Ju,Ic,CB,FT,Kn,Iq,Yy,ai3]];rw [show cu x.kd x.ek=none from by simp [cu,vD,yU,h47,h57,Dc,Ju,Ic,CB,FT,Kn,Iq,Yy,ai3]];exact ⟨rfl,jS.low⟩
  refine zN 17 ?_;rw [show cO x.kd x.ek=⟨#[]⟩ from by simp [cO,vD,yU,h47,h57,Dc,Ju,Ic,CB,FT,Kn]];rw [show cu x.kd x.ek=none from by simp [cu,vD,yU,h47,h57,Dc,Ju,Ic,CB,FT,Kn]];exact ⟨rfl,jS.low⟩
 refine lg 9 rfl S1 Gf ?_;intro aL0 aEE X7;refine dn ?_;refine aZ 8 ?_;refine lg 8 rfl X7 Gf ?_;intro aL1 aBt ace;refine dn ?_;refine aZ 10 ?_;refine sn 10 rfl 0 ace uQ ?_;intro aL2 adp;refine dn ?_;refine aZ 11 ?_;refine sn 11 rfl 1 adp uQ ?_;intro aDg X8;refine aO 2 ?_;refine zN 6 ?_;refine vv (v:= .agg #[pV g 3,iV 1048576]) gF ?_;refine fJ X8 Gf ?_;intro aL3 aEF TR;refine sa 0 TR uQ ?_;intro aL4 zA;refine zN 8 ?_;refine vv (v:=iV x.kd) (aj rfl rfl (av Tryz.underlying3 rfl (Rd.cl (j:=0) (St.rd 3 zA rfl) rfl))) ?_;refine zN 5 ?_;by_cases og:x.kd=1
 ·refine zN 6 ?_;have ai4:=zA.drew;refine aN 6 ai4 [] ?_;refine aO 3 ?_;refine aZ 2 ?_;refine jf (i:=2) rfl rfl (V:=λb=> .slice (aD b 0) 2 2) (row:= #[pV g 2,iV 3,pV g 1,iV 4]) (t:=141) ai4 (wn rfl) rfl rfl (bg (vs:=[(0,.agg #[pV g 2,iV 3]),(1,.agg #[pV g 1,iV 4])]) rfl ⟨rfl,rfl,rfl,rfl,trivial⟩ (by kernel_rfl)) ?_;intro aL5 aCF ao9;refine aO 4 ?_;refine zN 5 ?_;rw [show cO x.kd x.ek=⟨#[109,97,107,101]⟩ from by simp [cO,og]];have Ub:=ao9.aU [4,3,2,1];rw [show cu x.kd x.ek=some [(2,3),(1,4)] from by simp [cu,og]];exact ⟨_,rfl,St.jW (n:=2) (xs:=([(2,3),(1,4)]:List (Nat×Int)).flatMap (dL g)) 0 Ub rfl rfl rfl⟩
 refine zN 7 ?_;by_cases pU:x.kd=10
 ·refine zN 6 ?_;have avr:=zA.drew;refine aN 6 avr [] ?_;refine aO 3 ?_;refine aZ 2 ?_;refine jf (i:=2) rfl rfl (V:=λb=> .slice (aD b 0) 2 2) (row:= #[pV g 2,iV 3,pV g 1,iV 4]) (t:=141) avr (wn rfl) rfl rfl (bg (vs:=[(0,.agg #[pV g 2,iV 3]),(1,.agg #[pV g 1,iV 4])]) rfl ⟨rfl,rfl,rfl,rfl,trivial⟩ (by kernel_rfl)) ?_;intro aL6 aL7 aEG;refine aO 4 ?_;refine zN 5 ?_;rw [show cO x.kd x.ek=⟨#[109,111,118,101]⟩ from by simp [cO,og,pU]];have aEH:=aEG.aU [4,3,2,1];rw [show cu x.kd x.ek=some [(2,3),(1,4)] from by simp [cu,og,pU]];exact ⟨_,rfl,St.jW (n:=2) (xs:=([(2,3),(1,4)]:List (Nat×Int)).flatMap (dL g)) 0 aEH rfl rfl rfl⟩
 refine zN 7 ?_;by_cases qQ:x.kd=3
 ·refine zN 6 ?_;have aiY:=zA.drew;refine aN 5 aiY [] ?_;refine aO 2 ?_;refine aZ 1 ?_;refine Ho 1 rfl aiY ?_;intro aL8 aL9 aEI;refine aO 4 ?_;refine zN 5 ?_;rw [show cO x.kd x.ek=⟨#[115,116,101,112]⟩ from by simp [cO,og,pU,qQ]];have aEJ:=aEI.aU [4,3,2,1];rw [show cu x.kd x.ek=some [(1,4)] from by simp [cu,og,pU,qQ]];exact ⟨_,rfl,St.jW (n:=1) (xs:=([(1,4)]:List (Nat×Int)).flatMap (dL g)) 0 aEJ rfl rfl rfl⟩
 refine zN 7 ?_;by_cases uf:x.kd=9
 ·refine zN 6 ?_;have avs:=zA.drew;refine aN 5 avs [] ?_;refine aO 2 ?_;refine aZ 1 ?_;refine Ho 1 rfl avs ?_;intro aMa aMb aEK;refine aO 4 ?_;refine zN 5 ?_;rw [show cO x.kd x.ek=⟨#[115,116,97,114,116]⟩ from by simp [cO,og,pU,qQ,uf]];have apg:=aEK.aU [4,3,2,1];rw [show cu x.kd x.ek=some [(1,4)] from by simp [cu,og,pU,qQ,uf]];exact ⟨_,rfl,St.jW (n:=1) (xs:=([(1,4)]:List (Nat×Int)).flatMap (dL g)) 0 apg rfl rfl rfl⟩
 refine zN 7 ?_;by_cases vK:x.kd=8
 ·refine zN 6 ?_;have adM:=zA.drew;refine aN 9 adM [] ?_;refine aO 4 ?_;refine ak (v:= .agg #[pV g 4,iV 100000]) 4 rfl adM (λ_ _=>gF) ?_;refine dn ?_;refine aZ 5 ?_;refine jf (i:=5) rfl rfl (V:=λb=> .slice (aD b 0) 2 2) (row:= #[pV g 1,iV 4,pV g 4,iV 100000]) (t:=141) adM (wn rfl) rfl rfl (bg (vs:=[(0,.agg #[pV g 1,iV 4]),(1,.agg #[pV g 4,iV 100000])]) rfl ⟨rfl,rfl,rfl,rfl,trivial⟩ (by kernel_rfl)) ?_;intro aMc aMd aEL;refine aO 4 ?_;refine zN 5 ?_;rw [show cO x.kd x.ek=⟨#[99,114,97,115,104]⟩ from by simp [cO,og,pU,qQ,uf,vK]];have aph:=aEL.aU [4,3,2,1];rw [show cu x.kd x.ek=some [(1,4),(4,100000)] from by simp [cu,og,pU,qQ,uf,vK]];exact ⟨_,rfl,St.jW (n:=2) (xs:=([(1,4),(4,100000)]:List (Nat×Int)).flatMap (dL g)) 0 aph rfl rfl rfl⟩
 refine zN 7 ?_;by_cases xE:x.kd=4
 ·refine zN 6 ?_;have avt:=zA.drew;refine aN 5 avt [] ?_;refine aO 2 ?_;refine aZ 1 ?_;refine Ho 1 rfl avt ?_;intro aMe aMf aEM;refine aO 4 ?_;refine zN 5 ?_;rw [show cO x.kd x.ek=⟨#[99,97,114,114,121]⟩ from by simp [cO,og,pU,qQ,uf,vK,xE]];have aEN:=aEM.aU [4,3,2,1];rw [show cu x.kd x.ek=some [(3,1048576)] from by simp [cu,og,pU,qQ,uf,vK,xE]];exact ⟨_,rfl,St.jW (n:=1) (xs:=([(3,1048576)]:List (Nat×Int)).flatMap (dL g)) 0 aEN rfl rfl rfl⟩
 refine zN 7 ?_;by_cases zC:x.kd=5
 ·refine zN 6 ?_;have aiZ:=zA.drew;refine aN 5 aiZ [] ?_;refine aO 2 ?_;refine aZ 1 ?_;refine Ho 1 rfl aiZ ?_;intro aMg aMh aEO;refine aO 4 ?_;refine zN 5 ?_;rw [show cO x.kd x.ek=⟨#[108,111,115,101]⟩ from by simp [cO,og,pU,qQ,uf,vK,xE,zC]];have aEP:=aEO.aU [4,3,2,1];rw [show cu x.kd x.ek=some [(3,1048576)] from by simp [cu,og,pU,qQ,uf,vK,xE,zC]];exact ⟨_,rfl,St.jW (n:=1) (xs:=([(3,1048576)]:List (Nat×Int)).flatMap (dL g)) 0 aEP rfl rfl rfl⟩
 refine zN 7 ?_;by_cases CF:x.kd=6
 ·refine zN 6 ?_;have avu:=zA.drew;refine aN 5 avu [] ?_;refine aO 2 ?_;refine aZ 1 ?_;refine Ho 1 rfl avu ?_;intro aMi aMj aEQ;refine aO 4 ?_;refine zN 5 ?_;rw [show cO x.kd x.ek=⟨#[100,111,117,98,108,101]⟩ from by simp [cO,og,pU,qQ,uf,vK,xE,zC,CF]];have aER:=aEQ.aU [4,3,2,1];rw [show cu x.kd x.ek=some [(3,1048576)] from by simp [cu,og,pU,qQ,uf,vK,xE,zC,CF]];exact ⟨_,rfl,St.jW (n:=1) (xs:=([(3,1048576)]:List (Nat×Int)).flatMap (dL g)) 0 aER rfl rfl rfl⟩
 refine zN 7 ?_;by_cases FU:x.kd=7
 ·refine zN 16 ?_;rw [show cO x.kd x.ek=⟨#[97,108,108]⟩ from by simp [cO,og,pU,qQ,uf,vK,xE,zC,CF,FU]];have aES:=zA.aU [3,2,1,0];rw [show cu x.kd x.ek=some [] from by simp [cu,og,pU,qQ,uf,vK,xE,zC,CF,FU]];exact ⟨none,rfl,aI aES⟩
 refine zN 7 ?_;by_cases Ko:x.kd=2
 ·refine zN 18 ?_;refine vv (v:=iV x.ek) (aj rfl rfl (av Tryz.underlying3 rfl (Rd.cl (j:=5) (St.rd 3 zA rfl) rfl))) ?_;refine zN 5 ?_;by_cases QN:x.ek=1
  ·refine zN 6 ?_;have adT:=zA.drew;refine aN 18 adT [] ?_;refine aO 5 ?_;refine ak (v:= .agg #[pV g 6,iV 3]) 5 rfl adT (λ_ _=>gF) ?_;refine aO 3 ?_;refine ak (v:= .agg #[pV g 7,iV 1073741824]) 9 rfl adT (λ_ _=>gF) ?_;refine aO 3 ?_;refine ak (v:= .agg #[pV g 8,iV 1000000]) 13 rfl adT (λ_ _=>gF) ?_;refine dn ?_;refine aZ 14 ?_;refine jf (i:=14) rfl rfl (V:=λb=> .slice (aD b 0) 5 5) (row:= #[pV g 1,iV 4,pV g 2,iV 3,pV g 6,iV 3,pV g 7,iV 1073741824,pV g 8,iV 1000000]) (t:=141) adT (wn rfl) rfl rfl (bg (vs:=[(0,.agg #[pV g 1,iV 4]),(1,.agg #[pV g 2,iV 3]),(2,.agg #[pV g 6,iV 3]),(3,.agg #[pV g 7,iV 1073741824]),(4,.agg #[pV g 8,iV 1000000])]) rfl ⟨rfl,rfl,rfl,rfl,rfl,rfl,rfl,rfl,rfl,rfl,trivial⟩ (by kernel_rfl)) ?_;intro aMk aMl aET;refine aO 4 ?_;refine zN 6 ?_;rw [show cO x.kd x.ek=⟨#[112,117,98,108,105,115,104]⟩ from by simp [cO,og,pU,qQ,uf,vK,xE,zC,CF,FU,Ko,QN]];have aEU:=aET.aU [4,3,2,1];rw [show cu x.kd x.ek=some [(1,4),(2,3),(6,3),(7,1073741824),(8,1000000)] from by simp [cu,og,pU,qQ,uf,vK,xE,zC,CF,FU,Ko,QN]];exact ⟨_,rfl,St.jW (n:=5) (xs:=([(1,4),(2,3),(6,3),(7,1073741824),(8,1000000)]:List (Nat×Int)).flatMap (dL g)) 0 aEU rfl rfl rfl⟩
  refine zN 7 ?_;by_cases Yz:x.ek=2
  ·refine zN 6 ?_;have ai0:=zA.drew;refine aN 6 ai0 [] ?_;refine aO 3 ?_;refine aZ 2 ?_;refine jf (i:=2) rfl rfl (V:=λb=> .slice (aD b 0) 2 2) (row:= #[pV g 1,iV 4,pV g 2,iV 3]) (t:=141) ai0 (wn rfl) rfl rfl (bg (vs:=[(0,.agg #[pV g 1,iV 4]),(1,.agg #[pV g 2,iV 3])]) rfl ⟨rfl,rfl,rfl,rfl,trivial⟩ (by kernel_rfl)) ?_;intro aMm aMn aEV;refine aO 4 ?_;refine zN 6 ?_;rw [show cO x.kd x.ek=⟨#[114,101,99,101,105,118,101]⟩ from by simp [cO,og,pU,qQ,uf,vK,xE,zC,CF,FU,Ko,QN,Yz]];have aEW:=aEV.aU [4,3,2,1];rw [show cu x.kd x.ek=some [(1,4),(2,3)] from by simp [cu,og,pU,qQ,uf,vK,xE,zC,CF,FU,Ko,QN,Yz]];exact ⟨_,rfl,St.jW (n:=2) (xs:=([(1,4),(2,3)]:List (Nat×Int)).flatMap (dL g)) 0 aEW rfl rfl rfl⟩
  refine zN 7 ?_;by_cases ai5:x.ek=3
  ·refine zN 6 ?_;have ai6:=zA.drew;refine aN 16 ai6 [] ?_;refine aO 6 ?_;refine ak (v:= .agg #[pV g 9,iV 1048576]) 6 rfl ai6 (λ_ _=>gF) ?_;refine aO 4 ?_;refine ak (v:= .agg #[pV g 10,iV 1073741824]) 11 rfl ai6 (λ_ _=>gF) ?_;refine dn ?_;refine aZ 12 ?_;refine jf (i:=12) rfl rfl (V:=λb=> .slice (aD b 0) 4 4) (row:= #[pV g 1,iV 4,pV g 2,iV 3,pV g 9,iV 1048576,pV g 10,iV 1073741824]) (t:=141) ai6 (wn rfl) rfl rfl (bg (vs:=[(0,.agg #[pV g 1,iV 4]),(1,.agg #[pV g 2,iV 3]),(2,.agg #[pV g 9,iV 1048576]),(3,.agg #[pV g 10,iV 1073741824])]) rfl ⟨rfl,rfl,rfl,rfl,rfl,rfl,rfl,rfl,trivial⟩ (by kernel_rfl)) ?_;intro aMo aMp aEX;refine aO 4 ?_;refine zN 6 ?_;rw [show cO x.kd x.ek=⟨#[97,99,107]⟩ from by simp [cO,og,pU,qQ,uf,vK,xE,zC,CF,FU,Ko,QN,Yz,ai5]];have ai1:=aEX.aU [4,3,2,1];rw [show cu x.kd x.ek=some [(1,4),(2,3),(9,1048576),(10,1073741824)] from by simp [cu,og,pU,qQ,uf,vK,xE,zC,CF,FU,Ko,QN,Yz,ai5]];exact ⟨_,rfl,St.jW (n:=4) (xs:=([(1,4),(2,3),(9,1048576),(10,1073741824)]:List (Nat×Int)).flatMap (dL g)) 0 ai1 rfl rfl rfl⟩
  refine zN 18 ?_;rw [show cO x.kd x.ek=⟨#[]⟩ from by simp [cO,og,pU,qQ,uf,vK,xE,zC,CF,FU,Ko,QN,Yz,ai5]];rw [show cu x.kd x.ek=none from by simp [cu,og,pU,qQ,uf,vK,xE,zC,CF,FU,Ko,QN,Yz,ai5]];exact ⟨rfl,zA.low⟩
 refine zN 17 ?_;rw [show cO x.kd x.ek=⟨#[]⟩ from by simp [cO,og,pU,qQ,uf,vK,xE,zC,CF,FU,Ko]];rw [show cu x.kd x.ek=none from by simp [cu,og,pU,qQ,uf,vK,xE,zC,CF,FU,Ko]];exact ⟨rfl,zA.low⟩
theorem Tj (x:Ac) (w:World):
    Calls Tryz.prog 33 #[.agg #[iV x.kd,iV x.nd,iV x.qu,iV x.at_,iV x.kp,iV x.ek,iV x.ep,iV x.ei,iV x.eb,iV x.eh,iV x.en]] w (mU w (bV x)):=by
 have S:=St.start w;refine gq 57 Tryz.func33 ?_;refine cw [0] ?_;refine zN 2 ?_;refine iP S ?_;intro b1 w2 S3;refine zN 4 ?_;have HF:=λw h=>ZL b1 x w h
 rcases hf:cu x.kd x.ek with _ | l
 ·rw [hf] at HF;refine zQ ?_;refine dz asH (HF _ (St.lM 0 S3 rfl rfl rfl)) ?_;rintro _ w4 ⟨rfl,hb6⟩;refine ⟨_,rfl,?_⟩;have S5:=S3.on hb6;refine zN 25 ?_;rw [aau hf];exact ⟨rfl,S5.low⟩
 rw [hf] at HF;have hl5:=agw hf;refine zQ ?_;refine dz asH (HF _ (St.lM 0 S3 rfl rfl rfl)) ?_;rintro _ w8 ⟨A7,rfl,Oy⟩;refine ⟨_,rfl,?_⟩;have S9:=S3.ext Oy rfl;refine zN 28 ?_;refine cZ (X:=Nat) (λxv=>[(1,pV b1 0),(2,iV 0),(4,.slice A7 l.length l.length),(17,.slice A7 l.length l.length),(18,iV ((l.length:Nat):Int)),(19,iV ((xv:Nat):Int))]) (λxv wr=>(xv<=l.length)/\((l.take xv).all (PY x)=true)/\St w.heap.size w wr [.bI 2 A7 l.length ((l).flatMap (dL b1)),.blk b1 #[iV x.kd,iV x.nd,iV x.qu,iV x.at_,iV x.kp,iV x.ek,iV x.ep,iV x.ei,iV x.eb,iV x.eh,iV x.en] 69]) (λxv=>l.length-xv) (0) ?_ ?_ ?_
 ·exact ⟨Nat.zero_le _,rfl,S9⟩
 ·exact ⟨rfl,rfl,rfl,rfl,rfl,rfl,trivial⟩
 rintro k Cc ⟨an9,Nb,kE⟩
 try dsimp only at an9 Nb kE
 refine bq (l':=[(1,pV b1 0),(2,iV 0),(4,.slice A7 l.length l.length),(17,.slice A7 l.length l.length),(18,iV ((l.length:Nat):Int)),(19,iV ((k:Nat):Int))]) ⟨rfl,rfl,rfl,rfl,rfl,rfl,trivial⟩ (aH (aC ?_));by_cases h15:((k:Nat):Int)< ((l.length:Nat):Int)
 ·refine zN 11 ?_;obtain ⟨b16,o17,rfl⟩:=Rd.addr (St.bI 0 kE rfl) (by omega);obtain ⟨x18,Fq⟩:=zL k (St.bI 0 kE rfl) (by omega);refine vv (jI k) ?_;refine vv (aj rfl rfl (aA (cs:=(dL b1) x18) Tryz.underlying141 rfl uQ rfl (Rd.uW (St.bI 0 kE rfl) (λ_ _ h=>aX (enc:=(dL b1)) (sz:=2) (λ_=>rfl) Fq h)))) ?_;refine fJ kE Gf ?_;intro b20 Gl iY;refine sa 0 iY uQ ?_;intro Mw jS;refine zN 2 ?_;have hp:=Rp hf x18 (List.mem_of_getElem? Fq);refine zQ ?_;refine dR jS mixed (by kernel_rfl) ?_;refine zN 3 ?_;refine uv (v:=iV (x.get x18.1)) (λ_ aok=>(aj rfl rfl (av Tryz.underlying3 rfl (St.cl 2 aok rfl (Ac.anI x hp.2.1))))) ?_;by_cases h29:x.get x18.1<0
  ·refine zN 10 ?_;refine fC λw33 mg=>?_;refine zN 14 ?_;rw [Lc hf (aav Fq (by omega))];exact ⟨rfl,mg.low⟩
  refine zN 5 ?_;refine ug (v:=iV (x.get x18.1)) (λ_ aEY=>(aj rfl rfl (av Tryz.underlying3 rfl (St.cl 2 aEY rfl (Ac.anI x hp.2.1))))) ?_;refine zN 2 ?_;by_cases h43:x18.2<x.get x18.1
  ·refine zN 2 ?_;refine fC λXi wW=>?_;refine zN 14 ?_;rw [Lc hf (aav Fq (by omega))];exact ⟨rfl,wW.low⟩
  refine zN 2 ?_;refine fC λXf uq=>?_;refine zN 6 ?_;refine vv (v:=iV ((k+1:Nat):Int)) gu ?_;refine zN 2 ?_;have kS:=uq.aU [0];refine aM (k+1) ?_ ⟨rfl,rfl,rfl,rfl,rfl,rfl,trivial⟩ (by first | omega | (dsimp only;omega));exact ⟨(by omega),(agy Fq Nb (by omega)),kS⟩
 refine zN 19 ?_;obtain rfl:k=l.length:=by omega
 have hall:=Nb;rw [List.take_length] at hall;refine cZ (X:=Nat) (λxv=>[(1,pV b1 0),(2,iV 0),(38,.slice A7 l.length l.length),(39,iV ((l.length:Nat):Int)),(40,iV ((xv:Nat):Int))]) (λxv wr=>(xv<=l.length)/\St w.heap.size w wr [.bI 2 A7 l.length ((l).flatMap (dL b1)),.blk b1 (qc (zO x.ints (l.take xv))) 69]) (λxv=>l.length-xv) (0) ?_ ?_ ?_
 ·exact ⟨Nat.zero_le _,kE⟩
 ·exact ⟨rfl,rfl,rfl,rfl,rfl,trivial⟩
 rintro j w53 ⟨Kg,mh⟩
 try dsimp only at Kg mh
 refine bq (l':=[(1,pV b1 0),(2,iV 0),(38,.slice A7 l.length l.length),(39,iV ((l.length:Nat):Int)),(40,iV ((j:Nat):Int))]) ⟨rfl,rfl,rfl,rfl,rfl,trivial⟩ (aH (aC ?_));by_cases h56:((j:Nat):Int)< ((l.length:Nat):Int)
 ·refine zN 11 ?_;obtain ⟨b57,o58,rfl⟩:=Rd.addr (St.bI 0 mh rfl) (by omega);obtain ⟨EO,QO⟩:=zL j (St.bI 0 mh rfl) (by omega);refine vv (jI j) ?_;refine vv (aj rfl rfl (aA (cs:=(dL b1) EO) Tryz.underlying141 rfl uQ rfl (Rd.uW (St.bI 0 mh rfl) (λ_ _ h=>aX (enc:=(dL b1)) (sz:=2) (λ_=>rfl) QO h)))) ?_;refine fJ mh Gf ?_;intro b61 w62 wJ;refine sa 0 wJ uQ ?_;intro w64 DY;refine zN 6 ?_;have hp:=Rp hf EO (List.mem_of_getElem? QO);refine JQ (row':=qc (zO x.ints (l.take (j+1)))) 2 DY (wn rfl) rfl rfl rfl rfl rfl rfl nM rfl (by rw [ng (by rw [yK];rfl)];omega) (by rw [BS,agz QO]) ?_;intro Xd uZ;refine zN 4 ?_;refine vv (v:=iV ((j+1:Nat):Int)) gu ?_;refine zN 2 ?_;have yC:=uZ.aU [0];refine aM (j+1) ?_ ⟨rfl,rfl,rfl,rfl,rfl,trivial⟩ (by first | omega | (dsimp only;omega));exact ⟨(by omega),yC⟩
 refine zN 12 ?_;obtain rfl:j=l.length:=by omega
 rw [List.take_length] at mh;refine zN 2 ?_;refine vv (aj rfl rfl (av Tryz.underlying3 rfl (St.cl 1 mh rfl (abH (by rw [Ut _ _ (λp hp=>(Rp hf p hp).1)];rfl))))) ?_;by_cases h69:x.kd=2
 ·refine zN 7 ?_;refine JQ (row':=qc ((zO x.ints l).set 5 0)) 1 mh (wn rfl) rfl rfl rfl rfl rfl rfl nM rfl (by rw [ng (by simp only [List.length_set,yK];rfl)];decide) BS ?_;intro w70 uw;refine zN 5 ?_;refine JQ (row':=qc (((zO x.ints l).set 5 0).set 0 0)) 1 uw (wn rfl) rfl rfl rfl rfl rfl rfl nM rfl (by rw [ng (by simp only [List.length_set,yK];rfl)];decide) BS ?_;intro w72 uR;refine zN 4 ?_;have hfn:fin x l=((zO x.ints l).set 5 0).set 0 0:=by unfold fin;rw [if_pos h69]
  have hfl:(((zO x.ints l).set 5 0).set 0 0).length=11:=by simp only [List.length_set,yK];rfl
  have HN:=λw=>afc (a:=((zO x.ints l).set 5 0).set 0 0) (b:=zeros) hfl rfl w;rw [<-hfn] at HN;by_cases hfi:fin x l=zeros
  ·rw [decide_eq_true hfi] at HN;rw [hfn] at HN;refine zQ ?_;refine vv (v:= .agg (qc (((zO x.ints l).set 5 0).set 0 0))) (aj rfl rfl (oQ 1 uR rfl Tryz.underlying69 rfl kP (ng hfl))) ?_;refine zQ ?_;refine vv (v:= .bool false) (aR rfl rfl rfl (xO (by kernel_rfl) (HN _))) ?_;refine zN 12 ?_;rw [amS hf hall hfi];exact ⟨rfl,uR.low⟩
  rw [decide_eq_false hfi] at HN;rw [hfn] at HN;refine zQ ?_;refine vv (v:= .agg (qc (((zO x.ints l).set 5 0).set 0 0))) (aj rfl rfl (oQ 1 uR rfl Tryz.underlying69 rfl kP (ng hfl))) ?_;refine zQ ?_;refine vv (v:= .bool true) (aR rfl rfl rfl (xO (by kernel_rfl) (HN _))) ?_;refine zN 11 ?_;rw [Rq hf hall hfi];exact ⟨rfl,uR.low⟩
 refine zN 9 ?_;refine JQ (row':=qc ((zO x.ints l).set 0 0)) 1 mh (wn rfl) rfl rfl rfl rfl rfl rfl nM rfl (by rw [ng (by simp only [List.length_set,yK];rfl)];decide) BS ?_;intro w74 Hq;refine zN 4 ?_;have hfn:fin x l=(zO x.ints l).set 0 0:=by unfold fin;rw [if_neg h69]
 have hfl:((zO x.ints l).set 0 0).length=11:=by simp only [List.length_set,yK];rfl
 have HN:=λw=>afc (a:=(zO x.ints l).set 0 0) (b:=zeros) hfl rfl w;rw [<-hfn] at HN;by_cases hfi:fin x l=zeros
 ·rw [decide_eq_true hfi] at HN;rw [hfn] at HN;refine zQ ?_;refine vv (v:= .agg (qc ((zO x.ints l).set 0 0))) (aj rfl rfl (oQ 1 Hq rfl Tryz.underlying69 rfl kP (ng hfl))) ?_;refine zQ ?_;refine vv (v:= .bool false) (aR rfl rfl rfl (xO (by kernel_rfl) (HN _))) ?_;refine zN 12 ?_;rw [amS hf hall hfi];exact ⟨rfl,Hq.low⟩
 rw [decide_eq_false hfi] at HN;rw [hfn] at HN;refine zQ ?_;refine vv (v:= .agg (qc ((zO x.ints l).set 0 0))) (aj rfl rfl (oQ 1 Hq rfl Tryz.underlying69 rfl kP (ng hfl))) ?_;refine zQ ?_;refine vv (v:= .bool true) (aR rfl rfl rfl (xO (by kernel_rfl) (HN _))) ?_;refine zN 11 ?_;rw [Rq hf hall hfi];exact ⟨rfl,Hq.low⟩
instance:Ad Ac where
 size:=11
 ints x:=x.ints
 of l:=⟨l.getD 0 0,l.getD 1 0,l.getD 2 0,l.getD 3 0,l.getD 4 0,l.getD 5 0,l.getD 6 0,l.getD 7 0,l.getD 8 0,l.getD 9 0,l.getD 10 0⟩
 pos:=by omega
 len _:=rfl
 inv xs h:=by
  obtain ⟨a1,xs,rfl⟩:=List.exists_cons_of_length_eq_add_one h;obtain ⟨a2,xs,rfl⟩:=List.exists_cons_of_length_eq_add_one (Nat.succ.inj h);have h:=Nat.succ.inj (Nat.succ.inj h);obtain ⟨a3,xs,rfl⟩:=List.exists_cons_of_length_eq_add_one h;obtain ⟨a4,xs,rfl⟩:=List.exists_cons_of_length_eq_add_one (Nat.succ.inj h);have h:=Nat.succ.inj (Nat.succ.inj h);obtain ⟨a5,xs,rfl⟩:=List.exists_cons_of_length_eq_add_one h;obtain ⟨a6,xs,rfl⟩:=List.exists_cons_of_length_eq_add_one (Nat.succ.inj h);have h:=Nat.succ.inj (Nat.succ.inj h);obtain ⟨a7,xs,rfl⟩:=List.exists_cons_of_length_eq_add_one h;obtain ⟨a8,xs,rfl⟩:=List.exists_cons_of_length_eq_add_one (Nat.succ.inj h);have h:=Nat.succ.inj (Nat.succ.inj h);obtain ⟨a9,xs,rfl⟩:=List.exists_cons_of_length_eq_add_one h;obtain ⟨a10,xs,rfl⟩:=List.exists_cons_of_length_eq_add_one (Nat.succ.inj h);have h:=Nat.succ.inj (Nat.succ.inj h);obtain ⟨a11,xs,rfl⟩:=List.exists_cons_of_length_eq_add_one h;obtain rfl:=List.eq_nil_of_length_eq_zero (Nat.succ.inj h);rfl
def wT:List Ac->Int
 | []=>0
 | a::l=>if bV a≠0 then bV a else wT l
def CG (l:List Ac):Int:=if 100000<l.length then 1 else wT l
section
variable {l:List Ac} {k:Nat} {x:Ac}
theorem asf (h:l[k]? =some x) (hf:bV x=0):wT (l.drop k)=wT (l.drop (k+1)):=by rw [drop_cons h,wT,if_neg (λe=>e hf)]
theorem al7 (h:l[k]? =some x) (hf: ¬ bV x=0):wT (l.drop k)=bV x:=by rw [drop_cons h,wT,if_pos hf]
theorem RF (h: ¬ 100000<l.length):CG l=wT l:=if_neg h
theorem ahY (h:100000<l.length):CG l=1:=if_pos h
theorem MP: ∀ {l:List Ac},wT l=0-> ∀ a∈l,bV a=0
 | [],_,a,ha=>by simp at ha
 | x::l,h,a,ha=>by
  rw [wT] at h
  split at h
  ·rename_i hx;exact absurd h hx
  rename_i hx
  rcases List.mem_cons.1 ha with rfl | ha
  ·exact Classical.not_not.1 hx
  exact MP h a ha
theorem al8 (h:CG l=0):l.length<=100000/\ ∀ a∈l,bV a=0:=by
 unfold CG at h
 split at h
 ·cases h
 exact ⟨by omega,MP h⟩
theorem al9 (h:l[k]? =some x):l.take (k+1)=l.take k++[x]:=by rw [List.take_add_one,h];rfl
theorem ahZ {m:Cl} {l:List Ac}:m.run (l++[x])=(m.run l).act x:=by unfold Cl.run;rw [List.foldl_append];rfl
end
def GJ (fl:Nat) (U:Nat->Bool) (d:Dir) (bv sv tv:Value) (calls:Nat):List Value:=
 [iV ((fl:Nat):Int),.bool (U 0),.bool (U 1),.bool (U 2),.bool (U 3),.bool (U 4),iV d.p0.node,iV d.p0.epoch,iV d.p1.node,iV d.p1.epoch,iV d.p2.node,iV d.p2.epoch,iV d.p3.node,iV d.p3.epoch,bv,sv,tv,iV ((calls:Nat):Int)]
def nR (fl:Nat) (U:Nat->Bool) (d:Dir) (bv sv tv:Value) (calls:Nat):Array Value:=(GJ fl U d bv sv tv calls).toArray
def ama:Array Value:= #[iV 0,.bool false,.bool false,.bool false,.bool false,.bool false,iV 0,iV 0,iV 0,iV 0,iV 0,iV 0,iV 0,iV 0,.slice none 0 0,.slice none 0 0,.slice none 0 0,iV 0]
section
variable {fl calls q k:Nat} {U:Nat->Bool} {d:Dir} {bv sv tv fv nv:Value} {sh:Nat->Nat->Int×Int}
theorem anJ (h1:bv.oneCell'=true) (h2:sv.oneCell'=true) (h3:tv.oneCell'=true): ∀ u∈(nR fl U d bv sv tv calls).toList,u.oneCell'=true:=by
 intro u hu;simp only [nR,GJ,List.mem_cons,List.not_mem_nil,or_false] at hu
 rcases hu with rfl | rfl | rfl | rfl | rfl | rfl | rfl | rfl | rfl | rfl | rfl | rfl | rfl | rfl | rfl | rfl | rfl | rfl<;>first | rfl | assumption
theorem YA {fl' calls' o:Nat} {U':Nat->Bool} {d':Dir} {bv' sv' tv':Value} {vs:List Value} (h:o+vs.length<=18) (he:(GJ fl U d bv sv tv calls).take o++vs++(GJ fl U d bv sv tv calls).drop (o+vs.length)=GJ fl' U' d' bv' sv' tv' calls'):
  dG (nR fl U d bv sv tv calls) o vs=nR fl' U' d' bv' sv' tv' calls':=Array.ext' (by rw [iq _ _ _ h];exact he)
theorem aEZ {fl':Nat}:dG (nR fl U d bv sv tv calls) 0 [iV ((fl':Nat):Int)]=nR fl' U d bv sv tv calls:=YA (Nat.le_of_ble_eq_true rfl) rfl
theorem aE0 {d':Dir}:dG (nR fl U d bv sv tv calls) 6 d'.cells=nR fl U d' bv sv tv calls:=YA (Nat.le_of_ble_eq_true rfl) rfl
theorem anK {x:Value}:dG (nR fl U d bv sv tv calls) 14 [x]=nR fl U d x sv tv calls:=YA (Nat.le_of_ble_eq_true rfl) rfl
theorem ayb (hq:q<5) {v:Bool}:dG (nR fl U d bv sv tv calls) (1+q*1) [.bool v]=nR fl (upd U q v) d bv sv tv calls:=by
 rcases five hq with rfl | rfl | rfl | rfl | rfl<;>exact YA (Nat.le_of_ble_eq_true rfl) rfl
theorem amb: ∀ (j:Nat) (u:Value),(nR 0 (λ_=>false) (⟨⟨0,0⟩,⟨0,0⟩,⟨0,0⟩,⟨0,0⟩⟩:Dir) (.slice none 0 0) sv tv calls).toList[j]? =some u->(lI nv d fv sh sv tv calls)[50+j]? =some u:=by
 intro j u h;have hj:j<18:=(List.getElem?_eq_some_iff.1 h).1;have h2:j=0\/j=1\/j=2\/j=3\/j=4\/j=5\/j=6\/j=7\/j=8\/j=9\/j=10\/j=11\/j=12\/j=13\/j=14\/j=15\/j=16\/j=17:=by omega
 rcases h2 with rfl | rfl | rfl | rfl | rfl | rfl | rfl | rfl | rfl | rfl | rfl | rfl | rfl | rfl | rfl | rfl | rfl | rfl<;>exact h
end
def jH (p:Nat×List BX):List Value:=[.slice (aD p.1 0) 4 4]
structure P1 (L:List Fact) (m:Cl) (j:Nat) (p:Nat×List BX):Prop where
 rd:Ro L 6 (aD p.1 0) 4 (p.2.flatMap BX.cells)
 bm:p.2.map BX.b=vB (m.ah j).view
 bo: ∀ y∈p.2,Co L y
theorem P1.mono {L L':List Fact} {m:Cl} {j:Nat} {p:Nat×List BX} (h:P1 L m j p) (hl: ∀ f∈L,f∈L'):P1 L' m j p:=⟨h.rd.mono hl,h.bm,λy hy=>(h.bo y hy).mono hl⟩
def YB (L:List Fact) (m:Cl) (row:Array Value):Prop:= ∃ (U:Nat->Bool) (BA:Option Addr) (bc:Nat) (sA:Option Addr) (sc:Nat) (tA:Option Addr) (tc:Nat) (ps:List (Nat×List BX)),row=nR m.fly.length U m.off (.slice BA 5 bc) (.slice sA m.aP.length sc) (.slice tA m.bM.length tc) m.calls/\(∀ j,j<5->U j=(m.ah j).up)/\ps.length=5/\
 Ro L 1 BA 5 (ps.flatMap jH)/\Ro L 14 sA m.aP.length (m.aP.flatMap dI.cells)/\Ro L 7 tA m.bM.length (m.bM.flatMap xI.cells)/\ ∀ j p,ps[j]? =some p->P1 L m j p
section
variable {K:CK} {R:CX} {B n k:Nat} {w0 w:World} {fs gs N E L LC:List Fact} {m:Cl} {H:List LX} {X:Nd} {z:NX} {ps:List (Nat×List BX)} {p:Nat×List BX} {bs:List BX} {bB:Nat} {U:Nat->Bool}
theorem Wd.top (h:Wd K B w0 w fs m H):St B w0 w fs:=by
 obtain ⟨R,_,S⟩:=h;exact S.sub (List.sublist_append_left _ _)
open Classical in
theorem St.shut (hn:n<5) (S:St B w0 w (kH K n (m.ah n) (R.nx n)++(vG K R m++(gs++gI K R m fs n)))):St B w0 w (gs++(fs++lQ K R m)):=by
 refine S.perm (List.perm_iff_count.2 λa=>?_);have h1:=List.perm_iff_count.1 (vX (λj=>kH K j (m.ah j) (R.nx j)) hn) a;unfold gI lQ lZ;simp only [List.count_append] at h1⊢;omega
open Classical in
theorem St.anL (hn:n<5) (S:St B w0 w (kH K n (m.ah n) (R.nx n)++(vG K R m++(gs++((N++(fs++(lZ K R m n++R.L)))++E))))):St B w0 w (gs++((E++N)++(fs++lQ K R m))):=by
 refine S.perm (List.perm_iff_count.2 λa=>?_);have h1:=List.perm_iff_count.1 (vX (λj=>kH K j (m.ah j) (R.nx j)) hn) a;unfold lQ lZ;simp only [List.count_append] at h1⊢;omega
open Classical in
theorem St.aE1 (hn:n<5) (S:St B w0 w (gs++(N++(fs++lQ K R m)))):St B w0 w (kH K n (m.ah n) (R.nx n)++(vG K R m++(gs++(N++(fs++(lZ K R m n++R.L)))))):=by
 refine S.perm (List.perm_iff_count.2 λa=>?_);have h1:=List.perm_iff_count.1 (vX (λj=>kH K j (m.ah j) (R.nx j)) hn) a;unfold lQ lZ;simp only [List.count_append] at h1⊢;omega
open Classical in
theorem St.ayc (S:St B w0 w (gs++(N++(fs++LC)))):St B w0 w ((gs++(N++LC))++fs):=by
 refine S.perm (List.perm_iff_count.2 λa=>?_);simp only [List.count_append];omega
theorem QS (hl:ps.length=k) (h: ∀ j p,ps[j]? =some p->P1 L m j p) (hn:P1 L m k p): ∀ j q,(ps++[p])[j]? =some q->P1 L m j q:=λj q hq=>by
 by_cases e:j<ps.length
 ·rw [List.getElem?_append_left e] at hq;exact h j q hq
 rw [List.getElem?_append_right (by omega)] at hq;have:j-ps.length=0:=by
  have:=(List.getElem?_eq_some_iff.1 hq).1;rw [List.length_singleton] at this;omega
 rw [this] at hq
 cases hq;rw [show j=k by omega];exact hn
theorem ash (hk:k<5) (hz:R.nx k=z):Fact.own 73 6 (.slice (aD z.bb 0) 4 4) 4 (z.bx.flatMap BX.cells)∈lQ K R m:=by
 subst hz;refine List.mem_append_right _ (List.mem_append_left _ (List.mem_flatMap.2 ⟨k,List.mem_range.2 hk,?_⟩));exact List.mem_cons_of_mem _ (List.mem_cons_self ..)
theorem amc (h:dV K R.L k (m.ah k) (R.nx k)) (hX:m.ah k=X) (hz:R.nx k=z) (hu:X.up=true) (hk:k<5):P1 (N++lQ K R m) m k (z.bb,z.bx):=by
 have ho:=ash (K:=K) (m:=m) hk hz;subst hX;subst hz;refine ⟨Ro.own (List.mem_append_right _ ho),?_,λy hy=>(h.U4 y hy).mono λf hf=>List.mem_append_right _ (List.mem_append_right _ (List.mem_append_right _ hf))⟩;rw [gD hu];exact h.SV
theorem amd (hm:bs.map BX.b=vB (bL X.data X.syn)) (hc: ∀ y∈bs,y.b.evs.length<=y.c) (hX:m.ah k=X) (hu:X.up=false):P1 ((Fact.own 73 6 (.slice (aD bB 0) 4 4) 4 (bs.flatMap BX.cells)::(fF bs++N))++LC) m k (bB,bs):=by
 subst hX;refine ⟨Ro.own (List.mem_append_left _ (List.mem_cons_self ..)),?_,λy hy=>(QK hc y hy).mono λf hf=>List.mem_append_left _ (List.mem_cons_of_mem _ (List.mem_append_left _ hf))⟩;unfold Nd.view;rw [if_neg (by rw [hu];simp)];exact hm
theorem Vn (h: ∀ j,j<k->U j=(m.ah j).up) (hX:m.ah k=X): ∀ j,j<k+1->upd U k X.up j=(m.ah j).up:=λj hj=>by
 by_cases e:j=k
 ·rw [e,upd_same,hX]
 rw [upd_ne e];exact h j (by omega)
theorem ame {OA:Option Addr} {oc:Nat} (G:Good K R m H) (hl:ps.length=5) (hU: ∀ j,j<5->U j=(m.ah j).up) (hL:Fact.own 74 1 (.slice OA ps.length oc) ps.length (ps.flatMap jH)∈L) (hC: ∀ f∈lQ K R m,f∈L) (hp: ∀ j p,ps[j]? =some p->P1 L m j p):
  YB L m (nR R.fx.length U m.off (.slice OA ps.length oc) (.slice R.sA m.aP.length R.sc) (.slice R.tA m.bM.length R.tc) m.calls):=by
 rw [hl] at hL⊢;have hf:R.fx.length=m.fly.length:=by rw [<-G.fly,List.length_map]
 have h1:Fact.own 60 14 (.slice R.sA m.aP.length R.sc) m.aP.length (m.aP.flatMap dI.cells)∈lQ K R m:=List.mem_append_left _ (List.mem_cons_of_mem _ (List.mem_cons_of_mem _ (List.mem_cons_self ..)));have h2:Fact.own 81 7 (.slice R.tA m.bM.length R.tc) m.bM.length (m.bM.flatMap xI.cells)∈lQ K R m:=List.mem_append_left _ (List.mem_cons_of_mem _ (List.mem_cons_of_mem _ (List.mem_cons_of_mem _ (List.mem_cons_self ..))));exact ⟨U,OA,oc,R.sA,R.sc,R.tA,R.tc,ps,by rw [hf],hU,hl,Ro.own hL,Ro.own (hC _ h1),Ro.own (hC _ h2),hp⟩
end
theorem adU {B:Nat} {w0 w:World} {fs:List Fact} {A:Option Addr} {c:Nat} {l:List Ac} (S:St B w0 w fs) (hu:Uk B w0) (xZ:Ro fs 11 A l.length (l.flatMap Ac.cells)) (hb:l.length*88<=reachBytes):
    Calls Tryz.prog 23 #[.slice A l.length c] w (λe w'=>(CG l≠0->e= .returned (.tuple #[.agg ama,iV (CG l)])/\St B w0 w' fs)/\(CG l=0-> ∃ row L,e= .returned (.tuple #[.agg row,iV 0])/\YB L (iX.run l) row/\St B w0 w' (L++fs))):=by
 have hb2:=hb;unfold reachBytes at hb2;refine gq 99 Tryz.func23 ?_;refine cw [0] ?_;refine zN 2 ?_;refine fJ S Fb ?_;intro b1 w2 S3;refine zN 8 ?_;by_cases h4:100000< ((l.length:Nat):Int)
 ·refine zN 7 ?_;refine sa 0 S3 sH ?_;intro w5 S6;refine zN 6 ?_;have S7:=S6.aU [0];have hsf:CG l=1:=ahY (by omega);refine ⟨λ_=>⟨by rw [hsf];rfl,S7⟩,λh=>?_⟩;rw [hsf] at h;exact absurd h (by first | decide | assumption)
 refine zN 15 ?_;refine cZ (X:=Nat) (λxv=>[(0,.slice A l.length c),(2,pV b1 0),(3,iV 0),(18,.slice A l.length c),(19,iV ((l.length:Nat):Int)),(20,iV ((xv:Nat):Int))]) (λxv wr=>(xv<=l.length)/\(wT l=wT (l.drop xv))/\St B w0 wr ((.blk b1 #[iV 0,.bool false,.bool false,.bool false,.bool false,.bool false,iV 0,iV 0,iV 0,iV 0,iV 0,iV 0,iV 0,iV 0,.slice none 0 0,.slice none 0 0,.slice none 0 0,iV 0] 35)::fs)) (λxv=>l.length-xv) (0) ?_ ?_ ?_
 ·exact ⟨Nat.zero_le _,rfl,S3⟩
 ·exact ⟨rfl,rfl,rfl,rfl,rfl,rfl,trivial⟩
 rintro k1 w8 ⟨mK,Ni,S9⟩
 try dsimp only at mK Ni S9
 refine bq (l':=[(0,.slice A l.length c),(2,pV b1 0),(3,iV 0),(18,.slice A l.length c),(19,iV ((l.length:Nat):Int)),(20,iV ((k1:Nat):Int))]) ⟨rfl,rfl,rfl,rfl,rfl,rfl,trivial⟩ (aH (aC ?_));by_cases h12:((k1:Nat):Int)< ((l.length:Nat):Int)
 ·refine zN 10 ?_;obtain ⟨x,hx⟩: ∃ x,l[k1]? =some x:=⟨_,List.getElem?_eq_getElem (by omega)⟩;obtain ⟨ab_,ao_,hAb⟩:=yO xZ S9 (memT 1 rfl dS) (by omega);refine zQ ?_;refine vv (v:=pV ab_ (ao_+k1*11)) (aJ rfl rfl rfl (jr k1 hAb Tryz.underlying23 kP (by omega) (by omega))) ?_;refine vv (v:= .agg #[iV x.kd,iV x.nd,iV x.qu,iV x.at_,iV x.kp,iV x.ek,iV x.ep,iV x.ei,iV x.eb,iV x.eh,iV x.en]) (aj rfl rfl (aA (cs:=Ac.cells x) Tryz.underlying69 rfl kP rfl (λj u hu=>by rw [Nat.add_assoc];exact rA xZ hAb S9 (memT 1 rfl dS) (aX (enc:=Ac.cells) (sz:=11) (k:=k1) (λ_=>rfl) hx hu)))) ?_;refine fJ S9 aiq ?_;intro b13 MB iH;refine sa 0 iH kP ?_;intro w16 jM;refine zN 5 ?_;refine cab az0 jM (Tj x _) ?_;intro DK jU;refine zN 6 ?_;by_cases h21:bV x=0
  ·refine zN 8 ?_;refine vv (v:=iV ((k1+1:Nat):Int)) gu ?_;refine zN 2 ?_;have iY:=jU.aU [0];refine aM (k1+1) ?_ ⟨rfl,rfl,rfl,rfl,rfl,rfl,trivial⟩ (by first | omega | (dsimp only;omega));exact ⟨(by omega),(by rw [Ni];exact asf hx h21),iY⟩
  refine zN 8 ?_;refine sa 1 jU sH ?_;intro Mw jS;refine zN 10 ?_;have jB:=jS.aU [1,0];have hsf:CG l=bV x:=by rw [RF (by omega),Ni];exact al7 hx h21
  refine ⟨λ_=>⟨by rw [hsf];rfl,jB⟩,λh=>?_⟩;rw [hsf] at h;exact absurd h (by first | decide | assumption)
 refine zN 12 ?_;have avv:CG l=0:=by rw [RF (by omega),Ni,List.drop_eq_nil_of_le (by omega)];rfl
 obtain ⟨aHB,hall⟩:=al8 avv;refine dz az1 (WG S9 hu) ?_;rintro _ P7 ⟨K,rfl,aE2⟩;refine ⟨_,rfl,?_⟩;have aeK:Wd K B w0 P7 ((.blk b1 #[iV 0,.bool false,.bool false,.bool false,.bool false,.bool false,iV 0,iV 0,iV 0,iV 0,iV 0,iV 0,iV 0,iV 0,.slice none 0 0,.slice none 0 0,.slice none 0 0,iV 0] 35)::fs) iX []:=aE2;have uy:=Wd.top aeK;obtain ⟨kw,dx⟩: ∃ b,K.wb=b:=⟨_,rfl⟩;obtain ⟨n,hn0⟩: ∃ n,n=0:=⟨_,rfl⟩;have hn:n<5:=by omega
 obtain ⟨kn,hkn⟩: ∃ b,K.nb n=b:=⟨_,rfl⟩;rw [dx];refine zN 12 ?_;refine cZ (X:=Nat×Cl) (λxv=>[(2,pV b1 0),(3,iV 0),(7,pV kw 0),(32,.slice A l.length c),(33,iV ((l.length:Nat):Int)),(34,iV ((xv.1:Nat):Int))]) (λxv wr=>(Wd K B w0 wr ((.blk b1 #[iV 0,.bool false,.bool false,.bool false,.bool false,.bool false,iV 0,iV 0,iV 0,iV 0,iV 0,iV 0,iV 0,iV 0,.slice none 0 0,.slice none 0 0,.slice none 0 0,iV 0] 35)::fs) xv.2 [])/\(xv.2=iX.run (l.take xv.1))/\(Bs xv.2 xv.1)/\(ShN xv.2)/\(xv.1<=l.length)/\St B w0 wr ((.blk b1 #[iV 0,.bool false,.bool false,.bool false,.bool false,.bool false,iV 0,iV 0,iV 0,iV 0,iV 0,iV 0,iV 0,iV 0,.slice none 0 0,.slice none 0 0,.slice none 0 0,iV 0] 35)::fs)) (λxv=>l.length-xv.1) (0,iX) ?_ ?_ ?_
 ·exact ⟨aeK,rfl,aiJ,λ_ _=>Int.le_refl _,Nat.zero_le _,Wd.top aeK⟩
 ·exact ⟨rfl,rfl,rfl,rfl,rfl,rfl,trivial⟩
 rintro ⟨k2,mm⟩ Uy ⟨Iu,Fh,yw,Ud,adH,oz⟩
 try dsimp only at Iu Fh yw Ud adH oz
 refine bq (l':=[(2,pV b1 0),(3,iV 0),(7,pV kw 0),(32,.slice A l.length c),(33,iV ((l.length:Nat):Int)),(34,iV ((k2:Nat):Int))]) ⟨rfl,rfl,rfl,rfl,rfl,rfl,trivial⟩ ?_;obtain ⟨R3,G3,Xz⟩:=Iu.open hn;have Vl:=G3.lJ n hn;obtain ⟨X3,Cy⟩: ∃ X,mm.ah n=X:=⟨_,rfl⟩;obtain ⟨z3,hz3⟩: ∃ z,R3.nx n=z:=⟨_,rfl⟩;rw [Cy,hz3] at Xz Vl;obtain ⟨rr3,Kk⟩: ∃ r,gI K R3 mm fs n=r:=⟨_,rfl⟩;have avw: ∀ f∈fs,f∈rr3:=λf hf=>Kk▸List.mem_append_left _ hf;have nW:St B w0 Uy (cN kn n X3 z3 z3.pv (cF kw R3 mm ((.blk b1 #[iV 0,.bool false,.bool false,.bool false,.bool false,.bool false,iV 0,iV 0,iV 0,iV 0,iV 0,iV 0,iV 0,iV 0,.slice none 0 0,.slice none 0 0,.slice none 0 0,iV 0] 35)::rr3))):=by rw [<-Kk];subst hkn;subst dx;exact Xz
 clear Xz;refine zN 2 ?_;by_cases h37:((k2:Nat):Int)< ((l.length:Nat):Int)
 ·refine zN 10 ?_;obtain ⟨x,hx⟩: ∃ x,l[k2]? =some x:=⟨_,List.getElem?_eq_getElem (by omega)⟩;obtain ⟨ab_,ao_,hAb⟩:=yO xZ nW (memT 8 rfl avw) (by omega);have hxa:=Oh (hall x (List.mem_of_getElem? hx));refine zQ ?_;refine vv (v:=pV ab_ (ao_+k2*11)) (aJ rfl rfl rfl (jr k2 hAb Tryz.underlying23 kP (by omega) (by omega))) ?_;refine vv (v:= .agg #[iV x.kd,iV x.nd,iV x.qu,iV x.at_,iV x.kp,iV x.ek,iV x.ep,iV x.ei,iV x.eb,iV x.eh,iV x.en]) (aj rfl rfl (aA (cs:=Ac.cells x) Tryz.underlying69 rfl kP rfl (λj u hu=>by rw [Nat.add_assoc];exact rA xZ hAb nW (memT 8 rfl avw) (aX (enc:=Ac.cells) (sz:=11) (k:=k2) (λ_=>rfl) hx hu)))) ?_;refine fJ nW aiq ?_;intro b38 w39 uD;refine sa 0 uD kP ?_;intro w41 qV;refine zN 5 ?_;have qB:=qV.aU [0];have aE3:=Wd.dQ (m:=mm) (m':=mm) (H:=[]) (H':=[]) (fs:=(.blk b1 #[iV 0,.bool false,.bool false,.bool false,.bool false,.bool false,iV 0,iV 0,iV 0,iV 0,iV 0,iV 0,iV 0,iV 0,.slice none 0 0,.slice none 0 0,.slice none 0 0,iV 0] 35)::fs) (X':=X3) (z':=z3) (Ls:=[]) (fA:=R3.fA) (fc:=R3.fc) (fx:=R3.fx) (sA:=R3.sA) (sc:=R3.sc) (tA:=R3.tA) (tc:=R3.tc) (rr:=(.blk b1 #[iV 0,.bool false,.bool false,.bool false,.bool false,.bool false,iV 0,iV 0,iV 0,iV 0,iV 0,iV 0,iV 0,iV 0,.slice none 0 0,.slice none 0 0,.slice none 0 0,iV 0] 35)::rr3) hkn dx (by rw [<-Kk];rfl) G3 hn qB Vl.more (λu hu=> .inl hu) (aL Cy).symm G3.fly.symm mI;refine dz az2 (ahW (n:=x.nd.toNat) (q:=x.qu.toNat) (by have:=hxa.nd;omega) (by have:=hxa.qu;omega) (by have:=hxa.nd;omega) (by have:=hxa.qu;omega) rfl dx hu aE3 yw (by omega) hxa Ud) ?_;rintro _ Xi ⟨rfl,apt⟩;refine ⟨_,rfl,?_⟩;have wW:=Wd.top apt;refine zN 4 ?_;refine vv (v:=iV ((k2+1:Nat):Int)) gu ?_;refine zN 2 ?_;refine aM (k2+1,mm.act x) ?_ ⟨rfl,rfl,rfl,rfl,rfl,rfl,trivial⟩ (by first | omega | (dsimp only;omega));exact ⟨apt,(by dsimp only;rw [al9 hx,ahZ,<-Fh]),(by dsimp only;exact KN yw hxa (by omega)),(by dsimp only;exact ShN.act Ud),(by dsimp only;omega),(Wd.top apt)⟩
 refine zN 11 ?_;have hmm:mm=iX.run l:=by rw [Fh,List.take_of_length_le (by omega)]
 have q9:=yw;obtain ⟨R,G,S0⟩:=Iu.open hn;have NG:=G.lJ n hn;obtain ⟨X,hX⟩: ∃ X,mm.ah n=X:=⟨_,rfl⟩;obtain ⟨z,hz⟩: ∃ z,R.nx n=z:=⟨_,rfl⟩;rw [hX,hz] at S0 NG;obtain ⟨rr,hrr⟩: ∃ r,gI K R mm fs n=r:=⟨_,rfl⟩;have hfr: ∀ f∈fs,f∈rr:=λf hf=>hrr▸List.mem_append_left _ hf;have rJ:St B w0 Uy (cN kn n X z z.pv (cF kw R mm ((.blk b1 #[iV 0,.bool false,.bool false,.bool false,.bool false,.bool false,iV 0,iV 0,iV 0,iV 0,iV 0,iV 0,iV 0,iV 0,.slice none 0 0,.slice none 0 0,.slice none 0 0,iV 0] 35)::rr))):=by rw [<-hrr];subst hkn;subst dx;exact S0
 clear S0;have hcl:=q9.calls;have hfl:R.fx.length=mm.fly.length:=by rw [<-G.fly,List.length_map]
 refine zN 4 ?_;refine vv (v:= .agg (nR 0 (λ_=>false) (⟨⟨0,0⟩,⟨0,0⟩,⟨0,0⟩,⟨0,0⟩⟩:Dir) (.slice none 0 0) (.slice R.sA mm.aP.length R.sc) (.slice R.tA mm.bM.length R.tc) mm.calls)) (aj rfl rfl (aA (cs:=(nR 0 (λ_=>false) (⟨⟨0,0⟩,⟨0,0⟩,⟨0,0⟩,⟨0,0⟩⟩:Dir) (.slice none 0 0) (.slice R.sA mm.aP.length R.sc) (.slice R.tA mm.bM.length R.tc) mm.calls).toList) Tryz.underlying35 rfl sH rfl (St.rg 3 rJ rfl amb))) ?_;refine fJ rJ Fb ?_;intro OC Xf uq;refine stA 0 uq sH ?_ (h1:=by exact anJ (fl:=0) (U:=(λ_=>false)) (d:=(⟨⟨0,0⟩,⟨0,0⟩,⟨0,0⟩,⟨0,0⟩⟩:Dir)) (bv:= .slice none 0 0) (sv:= .slice R.sA mm.aP.length R.sc) (tv:= .slice R.tA mm.bM.length R.tc) (calls:=mm.calls) rfl rfl rfl);intro w52 vS;refine zN 2 ?_;have mh:=vS.eF [4,1];refine zQ ?_;have u6:=mh.drew;refine aN 13 u6 [0] ?_;refine aO 3 ?_;refine ak (v:= .slice R.fA R.fx.length R.fc) 3 rfl (St.del 0 u6) (λ_ TJ=>(aj rfl rfl (av Tryz.underlying106 rfl (St.cl 0 TJ rfl TV)))) ?_;refine aO 4 ?_;refine ak (v:= .agg ((mm.off.cells).toArray)) 8 rfl (St.del 0 u6) (λ_ abJ=>(aj rfl rfl (aA (cs:=(mm.off.cells)) Tryz.underlying30 rfl p9 rfl (St.rg 0 abJ rfl (yG))))) ?_;refine dn ?_;refine aZ 10 ?_;refine snz 10 rfl 0 u6 nM ?_ (hs:=by exact aEZ);intro Xd uZ;refine aO 2 ?_;refine aZ 12 ?_;refine snz 12 rfl 0 uZ p9 ?_ (h1:=wO _) (hs:=by exact aE0);intro w69 vV;refine aO 2 ?_;refine zN 3 ?_;obtain ⟨ab,ao,qZ⟩:=Cw G.arr vV (memT 9 rfl λf hf=>hrr▸List.mem_append_right _ (List.mem_append_right _ hf));refine zN 4 ?_;refine vv (v:= .slice R.nA 5 R.nc) (aj rfl rfl (av Tryz.underlying105 rfl (St.cl 1 vV rfl AA))) ?_;refine zN 5 ?_;have uw:=vV.eF [7,7,7,4,7,7,7];have AU:=St.shut (gs:=[.blk OC (nR R.fx.length (λ_=>false) mm.off (.slice none 0 0) (.slice R.sA mm.aP.length R.sc) (.slice R.tA mm.bM.length R.tc) mm.calls) 35,.blk b1 #[iV 0,.bool false,.bool false,.bool false,.bool false,.bool false,iV 0,iV 0,iV 0,iV 0,iV 0,iV 0,iV 0,iV 0,.slice none 0 0,.slice none 0 0,.slice none 0 0,iV 0] 35]) hn (by subst hkn;subst dx;rw [hX,hz,show gI K R mm fs n=rr from hrr];exact uw);have uR:=AU.nil 74 1;obtain ⟨LC,hLC⟩: ∃ f,f=lQ K R mm:=⟨_,rfl⟩;obtain ⟨LF,hLF⟩: ∃ f,f=fs++LC:=⟨_,rfl⟩;rw [<-hLC,<-hLF] at uR;refine cZ (X:=Nat×(Nat->Bool)×(List (Nat×List BX))×(Option Addr)×Nat×(List Fact)) (λxv=>[(2,pV b1 0),(3,iV 0),(10,pV OC 0),(60,.slice R.nA 5 R.nc),(61,iV 5),(62,iV ((xv.1:Nat):Int))]) (λxv wr=>(xv.1<=5)/\(xv.2.2.1.length=xv.1)/\(∀ j p,xv.2.2.1[j]? =some p->P1 (xv.2.2.2.2.2++LC) mm j p)/\(∀ j,j<xv.1->xv.2.1 j=(mm.ah j).up)/\St B w0 wr ((.own 74 1 (.slice xv.2.2.2.1 xv.2.2.1.length xv.2.2.2.2.1) xv.2.2.1.length ((xv.2.2.1).flatMap jH))::(.blk OC (nR R.fx.length xv.2.1 mm.off (.slice xv.2.2.2.1 xv.2.2.1.length xv.2.2.2.2.1) (.slice R.sA mm.aP.length R.sc) (.slice R.tA mm.bM.length R.tc) mm.calls) 35)::(.blk b1 #[iV 0,.bool false,.bool false,.bool false,.bool false,.bool false,iV 0,iV 0,iV 0,iV 0,iV 0,iV 0,iV 0,iV 0,.slice none 0 0,.slice none 0 0,.slice none 0 0,iV 0] 35)::(xv.2.2.2.2.2++LF))) (λxv=>5-xv.1) (0,(λ_=>false),[],none,0,[]) ?_ ?_ ?_
 ·exact ⟨Nat.zero_le _,rfl,(λj p hp=>by simp at hp),(λj hj=>absurd hj (Nat.not_lt_zero _)),uR⟩
 ·exact ⟨rfl,rfl,rfl,rfl,rfl,rfl,trivial⟩
 rintro ⟨k,U9,ps,OA,oc,N9⟩ w74 ⟨avx,adV,ai7,ai8,Hq⟩
 try dsimp only at avx adV ai7 ai8 Hq
 refine bq (l':=[(2,pV b1 0),(3,iV 0),(10,pV OC 0),(60,.slice R.nA 5 R.nc),(61,iV 5),(62,iV ((k:Nat):Int))]) ⟨rfl,rfl,rfl,rfl,rfl,rfl,trivial⟩ ?_;have hk5:k<=5:=avx;refine zN 2 ?_;by_cases h80:((k:Nat):Int)<5
 ·refine zN 10 ?_;have hk4:k<5:=by omega
  have S9:=St.aE1 (n:=k) (gs:=[.own 74 1 (.slice OA ps.length oc) ps.length ((ps).flatMap jH),.blk OC (nR R.fx.length U9 mm.off (.slice OA ps.length oc) (.slice R.sA mm.aP.length R.sc) (.slice R.tA mm.bM.length R.tc) mm.calls) 35,.blk b1 #[iV 0,.bool false,.bool false,.bool false,.bool false,.bool false,iV 0,iV 0,iV 0,iV 0,iV 0,iV 0,iV 0,iV 0,.slice none 0 0,.slice none 0 0,.slice none 0 0,iV 0] 35]) (N:=N9) (fs:=fs) hk4 (by rw [<-hLC,<-hLF];exact Hq);obtain ⟨X3,Cy⟩: ∃ X,mm.ah k=X:=⟨_,rfl⟩;obtain ⟨z3,hz3⟩: ∃ z,R.nx k=z:=⟨_,rfl⟩;obtain ⟨knk,ai9⟩: ∃ b,K.nb k=b:=⟨_,rfl⟩;obtain ⟨rk,Py⟩: ∃ r,fs++(lZ K R mm k++R.L)=r:=⟨_,rfl⟩;have Vl:=G.lJ k hk4;rw [Cy,hz3] at S9 Vl;rw [Py] at S9;have hLk: ∀ f∈R.L,f∈rk:=λf hf=>Py▸List.mem_append_right _ (List.mem_append_right _ hf);have vT:St B w0 w74 (cN knk k X3 z3 z3.pv (cF kw R mm ((.own 74 1 (.slice OA ps.length oc) ps.length ((ps).flatMap jH))::(.blk OC (nR R.fx.length U9 mm.off (.slice OA ps.length oc) (.slice R.sA mm.aP.length R.sc) (.slice R.tA mm.bM.length R.tc) mm.calls) 35)::(.blk b1 #[iV 0,.bool false,.bool false,.bool false,.bool false,.bool false,iV 0,iV 0,iV 0,iV 0,iV 0,iV 0,iV 0,iV 0,.slice none 0 0,.slice none 0 0,.slice none 0 0,iV 0] 35)::(N9++rk)))):=by subst ai9;subst dx;exact S9
  clear S9;refine zN 2 ?_;refine vv (v:=pV ab (ao+k*1)) (aJ rfl rfl rfl (jr k qZ Tryz.underlying105 ae2 (by omega) (by omega))) ?_;refine vv (v:=pV knk 0) (aj rfl rfl (av Tryz.underlying113 rfl (ai9▸wP (qZ▸G.arr) hk4 vT (memT 10 rfl λf hf=>List.mem_append_right _ (hLk f hf))))) ?_;refine zN 12 ?_;refine vv (v:=pV OC (1+k*1)) (aJ rfl rfl rfl (fE k Tryz.underlying25 Hf rfl hk4)) ?_;refine F8 (cs:= #[.bool X3.up]) (row':=nR R.fx.length (upd U9 k X3.up) mm.off (.slice OA ps.length oc) (.slice R.sA mm.aP.length R.sc) (.slice R.tA mm.bM.length R.tc) mm.calls) (fs':=(_::_::_::_::_::_::_::_::(.blk OC (nR R.fx.length (upd U9 k X3.up) mm.off (.slice OA ps.length oc) (.slice R.sA mm.aP.length R.sc) (.slice R.tA mm.bM.length R.tc) mm.calls) 35)::_::(N9++rk))) 8 vT (wn rfl) rfl rfl rfl rfl rfl rfl Hf rfl (bX rfl) (by show 1+k*1+1<=18;omega) (ayb hk4 (v:=X3.up)) rfl ?_;intro w82 Ce;refine zN 13 ?_
  rcases hup:X3.up with _ | _
  ·refine zN 4 ?_;refine vv (v:= .bool false) (QG hup (aj rfl rfl (av Tryz.underlying4 rfl (St.cl 0 Ce rfl rfl)))) ?_;refine zN 8 ?_;refine vv (aj rfl rfl (aA (cs:=[.slice z3.tA X3.data.length z3.tc,iV X3.syn]) Tryz.underlying116 rfl fG rfl (St.rg 0 Ce rfl (tH)))) ?_;have hrd:=(q9.lJ k hk4).JF;rw [Cy] at hrd;refine dz asF (Jt z3.tA z3.tc X3.data X3.syn _ (Vl.yH.rd Ce (memT 10 rfl λf hf=>List.mem_append_right _ (hLk f hf))) hrd.1 hrd.2.2.1) ?_;rintro _ w87 ⟨A84,c85,bB,bs,hbm,hbl,hbc,rfl,T86⟩;refine ⟨_,rfl,?_⟩;have Ox:=Ce.ext T86 (by simp [LB,Fact.Jw]);have KE:St B w0 w87 ((oB bB bs)::(.bI 1 A84 ((jR X3.data X3.syn).1.length) (byteCells ((jR X3.data X3.syn).1)))::(cN knk k X3 z3 z3.pv (cF kw R mm ((.own 74 1 (.slice OA ps.length oc) ps.length ((ps).flatMap jH))::(.blk OC (nR R.fx.length (upd U9 k X3.up) mm.off (.slice OA ps.length oc) (.slice R.sA mm.aP.length R.sc) (.slice R.tA mm.bM.length R.tc) mm.calls) 35)::(.blk b1 #[iV 0,.bool false,.bool false,.bool false,.bool false,.bool false,iV 0,iV 0,iV 0,iV 0,iV 0,iV 0,iV 0,iV 0,.slice none 0 0,.slice none 0 0,.slice none 0 0,iV 0] 35)::((N9++rk)++fF bs))))):=St.perm Ox (List.Perm.cons _ (List.Perm.cons _ (List.perm_append_comm (l₁:=fF bs))));clear Ce;refine zN 10 ?_;refine bsI KE ?_;intro b90 w91 zP;refine dw (news:=[.slice (aD bB 0) 4 4]) (xs':=((ps++[(bB,bs)])).flatMap jH) 10 zP (wn rfl) rfl rfl rfl rfl rfl rfl (St.lM (xs:=[.slice (aD bB 0) 4 4]) 0 zP rfl rfl rfl) Tryz.underlying31 aeY rfl (by decide) (bX rfl) (by simp only [maxLen];omega) (by omega) (iJ (enc:=jH) rfl rfl) ?_;intro A93 c94 w95 aMq aMr EC;refine zQ ?_;refine jL 11 EC aek ?_ (hs:=by exact anK);intro w99 tX;refine zN 4 ?_;refine vv (v:=iV ((k+1:Nat):Int)) gu ?_;refine zN 2 ?_;have xw:=tX.aU [2,0];have uH:=xw.eF [0,10,10,10,10,10,10,10,10,10,10];have qx:St B w0 w99 ((.own 74 1 (.slice A93 (ps.length+1) c94) (ps.length+1) (((ps++[(bB,bs)])).flatMap jH))::(.blk OC (nR R.fx.length (upd U9 k X3.up) mm.off (.slice A93 (ps.length+1) c94) (.slice R.sA mm.aP.length R.sc) (.slice R.tA mm.bM.length R.tc) mm.calls) 35)::(.blk b1 #[iV 0,.bool false,.bool false,.bool false,.bool false,.bool false,iV 0,iV 0,iV 0,iV 0,iV 0,iV 0,iV 0,iV 0,.slice none 0 0,.slice none 0 0,.slice none 0 0,iV 0] 35)::(((oB bB bs)::(fF bs++N9))++LF)):=by
    rw [hLF,hLC];exact St.anL (n:=k) (gs:=[.own 74 1 (.slice A93 (ps.length+1) c94) (ps.length+1) (((ps++[(bB,bs)])).flatMap jH),.blk OC (nR R.fx.length (upd U9 k X3.up) mm.off (.slice A93 (ps.length+1) c94) (.slice R.sA mm.aP.length R.sc) (.slice R.tA mm.bM.length R.tc) mm.calls) 35,.blk b1 #[iV 0,.bool false,.bool false,.bool false,.bool false,.bool false,iV 0,iV 0,iV 0,iV 0,iV 0,iV 0,iV 0,iV 0,.slice none 0 0,.slice none 0 0,.slice none 0 0,iV 0] 35,.own 73 6 (.slice (aD bB 0) 4 4) 4 ((bs).flatMap BX.cells)]) (N:=N9) (E:=fF bs) (fs:=fs) hk4 (by subst ai9;subst dx;rw [Cy,hz3];rw [<-Py] at uH;exact uH)
   have XA:ps.length+1=(ps++[(bB,bs)]).length:=by simp
   rw [XA] at qx;refine aM (k+1,upd U9 k X3.up,(ps++[(bB,bs)]),A93,c94,(.own 73 6 (.slice (aD bB 0) 4 4) 4 ((bs).flatMap BX.cells)::(fF bs++N9))) ?_ ⟨rfl,rfl,rfl,rfl,rfl,rfl,trivial⟩ (by first | omega | (dsimp only;omega));exact ⟨(by dsimp only;omega),(by dsimp only;rw [List.length_append,adV];rfl),(by dsimp only;exact QS adV (λj p hp=>(ai7 j p hp).mono (λf hf=>(List.mem_append.1 hf).elim (λh=>List.mem_append_left _ (List.mem_cons_of_mem _ (List.mem_append_right _ h))) λh=>List.mem_append_right _ h)) (amd hbm hbc Cy hup)),(by dsimp only;exact Vn ai8 Cy),qx⟩
  refine zN 4 ?_;refine vv (v:= .bool true) (QG hup (aj rfl rfl (av Tryz.underlying4 rfl (St.cl 0 Ce rfl rfl)))) ?_;refine zN 10 ?_;refine bsI Ce ?_;intro aMs auS Dx;refine dw (news:=[.slice (aD z3.bb 0) 4 4]) (xs':=((ps++[(z3.bb,z3.bx)])).flatMap jH) 8 Dx (wn rfl) rfl rfl rfl rfl rfl rfl (St.lM (xs:=[.slice (aD z3.bb 0) 4 4]) 0 Dx rfl rfl rfl) Tryz.underlying31 aeY rfl (by decide) (bX rfl) (by simp only [maxLen];omega) (by omega) (iJ (enc:=jH) rfl rfl) ?_;intro Yn Yo abL aHC aHD rO;refine zQ ?_;refine jL 9 rO aek ?_ (hs:=by exact anK);intro aoB Fu;refine zN 4 ?_;refine vv (v:=iV ((k+1:Nat):Int)) gu ?_;refine zN 2 ?_;have pJ:=Fu.aU [0];have xq:=pJ.eF [9,9,9,9,9,9,9,9,9,9];have AJ:St B w0 aoB ((.own 74 1 (.slice Yn (ps.length+1) Yo) (ps.length+1) (((ps++[(z3.bb,z3.bx)])).flatMap jH))::(.blk OC (nR R.fx.length (upd U9 k X3.up) mm.off (.slice Yn (ps.length+1) Yo) (.slice R.sA mm.aP.length R.sc) (.slice R.tA mm.bM.length R.tc) mm.calls) 35)::(.blk b1 #[iV 0,.bool false,.bool false,.bool false,.bool false,.bool false,iV 0,iV 0,iV 0,iV 0,iV 0,iV 0,iV 0,iV 0,.slice none 0 0,.slice none 0 0,.slice none 0 0,iV 0] 35)::(N9++LF)):=by
   rw [hLF,hLC];exact St.anL (n:=k) (gs:=[.own 74 1 (.slice Yn (ps.length+1) Yo) (ps.length+1) (((ps++[(z3.bb,z3.bx)])).flatMap jH),.blk OC (nR R.fx.length (upd U9 k X3.up) mm.off (.slice Yn (ps.length+1) Yo) (.slice R.sA mm.aP.length R.sc) (.slice R.tA mm.bM.length R.tc) mm.calls) 35,.blk b1 #[iV 0,.bool false,.bool false,.bool false,.bool false,.bool false,iV 0,iV 0,iV 0,iV 0,iV 0,iV 0,iV 0,iV 0,.slice none 0 0,.slice none 0 0,.slice none 0 0,iV 0] 35]) (N:=N9) (E:=[]) (fs:=fs) hk4 (by subst ai9;subst dx;rw [Cy,hz3,List.append_nil];rw [<-Py] at xq;exact xq)
  have XA:ps.length+1=(ps++[(z3.bb,z3.bx)]).length:=by simp
  rw [XA] at AJ;refine aM (k+1,upd U9 k X3.up,(ps++[(z3.bb,z3.bx)]),Yn,Yo,N9) ?_ ⟨rfl,rfl,rfl,rfl,rfl,rfl,trivial⟩ (by first | omega | (dsimp only;omega));exact ⟨(by dsimp only;omega),(by dsimp only;rw [List.length_append,adV];rfl),(by dsimp only;exact QS adV (λj p hp=>(ai7 j p hp).mono (λf hf=>hf)) (hLC▸amc (G.lJ k hk4) Cy hz3 hup hk4)),(by dsimp only;exact Vn ai8 Cy),AJ⟩
 refine zN 13 ?_;refine stA 2 Hq sH ?_ (h1:=by exact anJ (fl:=R.fx.length) (U:=U9) (d:=mm.off) (bv:= .slice OA ps.length oc) (sv:= .slice R.sA mm.aP.length R.sc) (tv:= .slice R.tA mm.bM.length R.tc) (calls:=mm.calls) rfl rfl rfl);intro aiW pK;refine zN 5 ?_;have hsf:CG l=0:=avv;refine ⟨λh=>absurd hsf h,λ_=>?_⟩;have qO:=pK.aU [2,1];have h5:k=5:=by omega
 rw [hLF] at qO;refine ⟨_,[.own 74 1 (.slice OA ps.length oc) ps.length ((ps).flatMap jH)]++(N9++LC),rfl,?_,St.ayc (gs:=[.own 74 1 (.slice OA ps.length oc) ps.length ((ps).flatMap jH)]) (N:=N9) (fs:=fs) (LC:=LC) qO⟩;rw [<-hmm];exact ame (ps:=ps) G (by omega) (λj hj=>ai8 j (by omega)) (List.mem_append_left _ (List.mem_singleton.2 rfl)) (λf hf=>List.mem_append_right _ (List.mem_append_right _ (hLC▸hf))) (λj p hp=>(ai7 j p hp).mono λf hf=>List.mem_append_right _ hf)
theorem asl {B:Nat} {w0 w:World} {fs:List Fact} {A:Option Addr} {c:Nat} {l:List Ac} (h0:CG l=0) (S:St B w0 w fs) (hu:Uk B w0) (xZ:Ro fs 11 A l.length (l.flatMap Ac.cells)) (hb:l.length*88<=reachBytes):
  Calls Tryz.prog 23 #[.slice A l.length c] w (λe w'=> ∃ row L,e= .returned (.tuple #[.agg row,iV 0])/\YB L (iX.run l) row/\St B w0 w' (L++fs)):=(adU S hu xZ hb).mono λ_ _ h=>h.2 h0
structure OX where
 fl:Nat
 U:Nat->Bool
 d:Dir
 BA:Option Addr
 bc:Nat
 sA:Option Addr
 sn:Nat
 sc:Nat
 tA:Option Addr
 tn:Nat
 tc:Nat
 calls:Nat
def OX.cells (x:OX):List Value:=GJ x.fl x.U x.d (.slice x.BA 5 x.bc) (.slice x.sA x.sn x.sc) (.slice x.tA x.tn x.tc) x.calls
structure adW (L:List Fact) (m:Cl) (x:OX):Prop where
 up: ∀ j,j<5->x.U j=(m.ah j).up
 d:x.d=m.off
 fl:x.fl=m.fly.length
 sn:x.sn=m.aP.length
 tn:x.tn=m.bM.length
 calls:x.calls=m.calls
 ps: ∃ ps:List (Nat×List BX),ps.length=5/\Ro L 1 x.BA 5 (ps.flatMap jH)/\ ∀ j p,ps[j]? =some p->P1 L m j p
 aP:Ro L 14 x.sA x.sn (m.aP.flatMap dI.cells)
 bM:Ro L 7 x.tA x.tn (m.bM.flatMap xI.cells)
theorem YB.x {L:List Fact} {m:Cl} {row:Array Value} (h:YB L m row): ∃ x:OX,row=x.cells.toArray/\adW L m x:=by
 obtain ⟨U,BA,bc,sA,sc,tA,tc,ps,rfl,hU,hl,hB,hs,ht,hP⟩:=h;exact ⟨⟨m.fly.length,U,m.off,BA,bc,sA,m.aP.length,sc,tA,m.bM.length,tc,m.calls⟩,rfl,hU,rfl,rfl,rfl,rfl,rfl,⟨ps,hl,hB,hP⟩,hs,ht⟩
theorem adW.mono {L L':List Fact} {m:Cl} {x:OX} (h:adW L m x) (hl: ∀ f∈L,f∈L'):adW L' m x:=by
 obtain ⟨h1,h2,h3,h4,h5,h6,⟨ps,h7,h8,h9⟩,h10,h11⟩:=h;exact ⟨h1,h2,h3,h4,h5,h6,⟨ps,h7,h8.mono hl,λj p hj=>(h9 j p hj).mono hl⟩,h10.mono hl,h11.mono hl⟩
def RG (B:Nat) (w0:World) (fs:List Fact) (l:List Ac) (e:Ending) (w':World):Prop:= ∃ x L,e= .returned (.tuple #[.agg (OX.cells x).toArray,.bool true])/\adW L (iX.run l) x/\St B w0 w' (L++fs)
theorem amf {α:Type} {l:List α} (h:l.length=5): ∃ a b c d e,l=[a,b,c,d,e]:=by
 match l,h with
 | [a,b,c,d,e],_=>exact ⟨a,b,c,d,e,rfl⟩
theorem QT {B:Nat} {w0 w:World} {fs:List Fact} {A:Option Addr} {c:Nat} {l:List Ac} (h0:CG l=0) (S:St B w0 w fs) (hu:Uk B w0) (xZ:Ro fs 11 A l.length (l.flatMap Ac.cells)) (hb:l.length*88<=reachBytes):
    Calls Tryz.prog 12 #[.slice A l.length c] w (RG B w0 fs l):=by
 refine gq 28 Tryz.func12 ?_;refine cw [0] ?_;refine zN 2 ?_;refine fJ S Fb ?_;intro b1 w2 S3;refine zN 6 ?_;refine dz azY (asl h0 S3 hu (xZ.mono (memT 1 rfl dS)) hb) ?_;rintro _ w4 ⟨aMt,L8,rfl,hO9,S5⟩;refine ⟨_,rfl,?_⟩;obtain ⟨x,rfl,hX⟩:=YB.x hO9;obtain ⟨ps,hpl,hBA,hP⟩:=hX.ps;obtain ⟨p0,p1,p2,p3,p4,rfl⟩:=amf hpl;have S6:=S5.perm (List.perm_middle (a:= .blk b1 #[iV 0,.bool false,.bool false,.bool false,.bool false,.bool false,iV 0,iV 0,iV 0,iV 0,iV 0,iV 0,iV 0,iV 0,.slice none 0 0,.slice none 0 0,.slice none 0 0,iV 0] 35) (l₁:=L8) (l₂:=fs));have D6: ∀ f∈L8,f∈L8++fs:=λf h=>List.mem_append_left _ h;obtain ⟨bA,oA,hBa⟩:=yO hBA S6 (memT 1 rfl D6) (by decide);refine zN 3 ?_;refine fJ S6 Fb ?_;intro b10 Cc kE;refine stA 0 kE sH ?_;intro DU kD;refine zN 4 ?_;have iH:=kD.drew;refine aN 19 iH [1] ?_;refine aO 12 ?_;refine Eo (v:= .pointer (some ⟨bA,oA+0*1,none⟩)) (i:=12) (n:=6) rfl (by kernel_rfl) (by kernel_rfl) (by kernel_rfl) (St.del 1 iH) rfl (wg rfl rfl rfl rfl) rfl rfl (λ_ _=>(aJ rfl rfl rfl (jr 0 hBa Tryz.underlying31 NZ (by decide) (by decide)))) ?_;refine Eo (v:= .slice (some ⟨p0.1,0,none⟩) 4 4) (i:=13) (n:=5) rfl (by kernel_rfl) (by kernel_rfl) (by kernel_rfl) (St.del 1 iH) rfl (wg rfl rfl rfl rfl) rfl rfl (λ_ adu=>(aj rfl rfl (av Tryz.underlying74 rfl (rA hBA hBa adu (memT 1 rfl D6) rfl)))) ?_;refine aO 3 ?_;refine aZ 17 ?_;refine snA 17 rfl 1 iH sH ?_;intro w33 mg;refine aO 3 ?_;refine zN 3 ?_;have nW:=mg.aU [1,0];exact ⟨x,L8,rfl,hX,nW⟩
def oN (q:Nat) (l:List dI):List dI:=l.filter λs=>decide (s.q=q)
section
variable {l:List dI} {i q:Nat} {s:dI}
theorem ah0 (h:l[i]? =some s) (hq:(s.q:Int)=(q:Int)):oN q (l.take i)++[s]=oN q (l.take (i+1)):=by
 unfold oN;rw [List.take_add_one,h,List.filter_append];have:s.q=q:=by omega
 simp [this]
theorem amg (h:l[i]? =some s) (hq: ¬ (s.q:Int)=(q:Int)):oN q (l.take i)=oN q (l.take (i+1)):=by
 unfold oN;rw [List.take_add_one,h,List.filter_append];have: ¬ s.q=q:=by omega
 simp [this]
end
theorem Ns {x:OX} {sA:Option Addr} {sn sc q:Nat} {l:List dI} {w:World} (h:Rd w w.heap.size 14 sA sn (l.flatMap dI.cells)) (hn:sn<=1000000000):
    Calls Tryz.prog 15 #[.agg #[.int .i64 ((x.fl:Nat):Int),.bool (x.U 0),.bool (x.U 1),.bool (x.U 2),.bool (x.U 3),.bool (x.U 4),.int .i64 x.d.p0.node,.int .i64 x.d.p0.epoch,.int .i64 x.d.p1.node,.int .i64 x.d.p1.epoch,.int .i64 x.d.p2.node,.int .i64 x.d.p2.epoch,.int .i64 x.d.p3.node,.int .i64 x.d.p3.epoch,.slice x.BA 5 x.bc,.slice sA sn sc,.slice x.tA x.tn x.tc,.int .i64 ((x.calls:Nat):Int)],.int .i64 ((q:Nat):Int)] w (λe w'=> ∃ A' c',e= .returned (.slice A' (oN q l).length c')/\St w.heap.size w w' [.own 60 14 (.slice A' (oN q l).length c') (oN q l).length ((oN q l).flatMap dI.cells)]):=by
 have S:=(St.start w).bU h;refine gq 31 Tryz.func15 ?_;refine cw [0,1] ?_;refine zN 2 ?_;refine iP S ?_;intro b1 w2 S3;refine zN 15 ?_;have S4:=S3.nil 60 14;change St _ _ _ [.own 60 14 (.slice none 0 0) 0 ((([]:List dI)).flatMap dI.cells),_,_] at S4;refine cZ (X:=Nat×Nat×(Option Addr)×Nat×(List dI)) (λxv=>[(1,.int .i64 ((q:Nat):Int)),(2,.pointer (some ⟨b1,0,none⟩)),(4,.slice none 0 0),(5,.slice xv.2.2.1 xv.2.1 xv.2.2.2.1),(6,.int .i64 ((xv.1:Nat):Int))]) (λxv wr=>(xv.1<=sn)/\(xv.2.1<=xv.1)/\(xv.2.2.2.2=oN q (l.take xv.1))/\St w.heap.size w wr [.own 60 14 (.slice xv.2.2.1 xv.2.1 xv.2.2.2.1) xv.2.1 ((xv.2.2.2.2).flatMap dI.cells),.blk b1 #[.int .i64 ((x.fl:Nat):Int),.bool (x.U 0),.bool (x.U 1),.bool (x.U 2),.bool (x.U 3),.bool (x.U 4),.int .i64 x.d.p0.node,.int .i64 x.d.p0.epoch,.int .i64 x.d.p1.node,.int .i64 x.d.p1.epoch,.int .i64 x.d.p2.node,.int .i64 x.d.p2.epoch,.int .i64 x.d.p3.node,.int .i64 x.d.p3.epoch,.slice x.BA 5 x.bc,.slice sA sn sc,.slice x.tA x.tn x.tc,.int .i64 ((x.calls:Nat):Int)] 35,.rd 14 sA sn ((l).flatMap dI.cells)]) (λxv=>sn-xv.1) (0,0,none,0,[]) ?_ ?_ ?_
 ·exact ⟨Nat.zero_le _,Nat.zero_le _,rfl,S4⟩
 ·exact ⟨rfl,rfl,rfl,rfl,rfl,trivial⟩
 rintro ⟨i,k,Ab,cb,ys⟩ w5 ⟨Jr,zT,hi9,S6⟩
 try dsimp only at Jr zT hi9 S6
 refine bq (l':=[(1,.int .i64 ((q:Nat):Int)),(2,.pointer (some ⟨b1,0,none⟩)),(4,.slice none 0 0),(5,.slice Ab k cb),(6,.int .i64 ((i:Nat):Int))]) ⟨rfl,rfl,rfl,rfl,rfl,trivial⟩ (aH (aH (aC (vm ?_))));refine zN 3 ?_;by_cases h10:((i:Nat):Int)< ((sn:Nat):Int)
 ·refine zN 13 ?_;obtain ⟨b11,o12,rfl⟩:=Rd.addr (St.rd 2 S6 rfl) (by omega);obtain ⟨wS,aja⟩:=zL i (St.rd 2 S6 rfl) (by omega);refine vv (v:= .pointer (some ⟨b11,o12+i*14,none⟩)) (aJ rfl rfl rfl (cB i Tryz.underlying32 iN (by omega) (by omega))) ?_;refine vv (fO (o12+i*14+1) ae0) ?_;refine vv (aj rfl rfl (av Tryz.underlying3 rfl (Rd.xH (i:=1) (St.rd 2 S6 rfl) (aX (enc:=dI.cells) (sz:=14) (λ_=>rfl) aja rfl)))) ?_;refine zQ ?_;by_cases h15:((wS.q:Nat):Int)=((q:Nat):Int)
  ·refine zN 9 ?_;refine vv (v:= .pointer (some ⟨b11,o12+i*14,none⟩)) (aJ rfl rfl rfl (cB i Tryz.underlying32 iN (by omega) (by omega))) ?_;refine vv (aj rfl rfl (aA (cs:=dI.cells wS) Tryz.underlying60 rfl iN rfl (Rd.uW (St.rd 2 S6 rfl) (λ_ _ h=>aX (enc:=dI.cells) (sz:=14) (λ_=>rfl) aja h)))) ?_;refine Oo S6 ?_;intro b16 Ms jl;refine dw (news:=[.int .i64 ((wS.nd:Nat):Int),.int .i64 ((wS.q:Nat):Int),.int .i64 wS.ep,.int .i64 wS.op.kind,.int .i64 wS.op.producer,.int .i64 wS.op.id,.int .i64 wS.op.body,.int .i64 wS.op.aG,.int .i64 wS.op.hno,.int .i64 wS.ans.code,.int .i64 wS.ans.dK,.int .i64 wS.ans.hno,.int .i64 wS.ans.body,.int .i64 wS.num]) (xs':=(ys++[wS]).flatMap dI.cells) 1 jl (wn rfl) rfl rfl rfl rfl rfl rfl (St.lM (xs:=[.int .i64 ((wS.nd:Nat):Int),.int .i64 ((wS.q:Nat):Int),.int .i64 wS.ep,.int .i64 wS.op.kind,.int .i64 wS.op.producer,.int .i64 wS.op.id,.int .i64 wS.op.body,.int .i64 wS.op.aG,.int .i64 wS.op.hno,.int .i64 wS.ans.code,.int .i64 wS.ans.dK,.int .i64 wS.ans.hno,.int .i64 wS.ans.body,.int .i64 wS.num]) 0 jl rfl rfl rfl) Tryz.underlying32 aeZ rfl (by decide) (bX rfl) (by simp only [maxLen];omega) (by omega) (iJ (enc:=dI.cells) rfl rfl) ?_;intro A19 c20 Gl aMu aMv iY;refine zN 6 ?_;refine vv (v:= .int .i64 ((i+1:Nat):Int)) gu ?_;refine zN 2 ?_;have jB:=iY.aU [0];refine aM (i+1,k+1,A19,c20,ys++[wS]) ?_ ⟨rfl,rfl,rfl,rfl,rfl,trivial⟩ (by first | omega | (dsimp only;omega));exact ⟨(by dsimp only;omega),(by dsimp only;omega),(by dsimp only;rw [hi9];exact ah0 aja h15),jB⟩
  refine zN 9 ?_;refine vv (v:= .int .i64 ((i+1:Nat):Int)) gu ?_;refine zN 2 ?_;refine aM (i+1,k,Ab,cb,ys) ?_ ⟨rfl,rfl,rfl,rfl,rfl,trivial⟩ (by first | omega | (dsimp only;omega));exact ⟨(by dsimp only;omega),(by dsimp only;omega),(by dsimp only;rw [hi9];exact amg aja h15),S6⟩
 refine zN 17 ?_;obtain rfl:i=sn:=by omega
 have hll:=h.1;rw [gQ (sz:=14) (λ_=>rfl)] at hll;have hys:=(S6.own 0 rfl).1;rw [gQ (sz:=14) (λ_=>rfl)] at hys;obtain rfl:k=ys.length:=by omega
 have hyl:=hi9;rw [List.take_of_length_le (by omega)] at hyl;subst hyl;have kJ:=S6.aU [2,1];exact ⟨Ab,cb,rfl,kJ⟩
theorem Vo {l:List Ac} (h: ∀ a∈l,bV a=0) (hl:l.length<=1000):CG l=0:=by
 rw [RF (by omega)];clear hl
 induction l with
 | nil=>rfl
 | cons a l ih=>rw [wT,if_neg (by rw [h a List.mem_cons_self];simp),ih λx hx=>h x (List.mem_cons_of_mem _ hx)]
theorem afY {P:Program} {t:TypeId} {xo yo:Operand} {w:World} {a b:Int} (ha:0<=a) (hb:0<b):(do eqGuard .rem t xo yo (iV a) (iV b);binOp .rem t (iV a) (iV b):Sem Value).run P w= .ok (iV (a % b)) w:=by
 obtain ⟨k,rfl⟩:=Int.eq_ofNat_of_zero_le ha;obtain ⟨m,rfl⟩:=Int.eq_ofNat_of_zero_le (Int.le_of_lt hb);exact Xw (c:=k % m) rfl (by omega)
theorem ayd {P:Program} {w:World} {x:Int} (h: -9223372036854775807<=x/\x<=9223372036854775807):(Op.unary .neg (iV x)).run P w= .ok (iV (-x)) w:=by
 simp [Op.unary,Op.intArith,Int.zero_sub,wrap64_in (z:= -x) (by omega) (by omega)]
def bn (n m:Int):Int:=(if n<0 then-(n+1) else n) % m
theorem mY {n m:Int} (hm:0<m):0<=bn n m/\bn n m<m:=⟨Int.emod_nonneg _ (by omega),Int.emod_lt_of_pos _ hm⟩
def nC (k a b c:Int):Ev:=
 if bn k 8<3 then ⟨1,bn a 2,bn b 24,bn c 1000,0,0⟩ else if bn k 8<5 then ⟨2,0,0,0,0,0⟩
 else if bn k 8<7 then ⟨3,0,0,0,bn a 3,bn b 6⟩ else ⟨4,0,0,0,0,0⟩
structure Gr where
 kd:Int
 a:Int
 b:Int
 c:Int
 d:Int
def Gr.cells (g:Gr):List Value:=[iV g.kd,iV g.a,iV g.b,iV g.c,iV g.d]
def MQ (x:Int):Prop:= -9223372036854775808<=x/\x<=9223372036854775807
def Gr.ok (g:Gr):Prop:=MQ g.kd/\MQ g.a/\MQ g.b/\MQ g.c/\MQ g.d
def YC (g:Gr) (e:Ev):Ac:=⟨2,bn g.a 3,bn g.b 2,0,0,if e.kind=4 then 2 else e.kind,e.producer,e.id,e.body,e.aG,e.hno⟩
def gX (g:Gr) (cr:Bool):Ac:=
 if bn g.kd 24<7 then YC g (nC g.c g.a g.d g.d)
 else if bn g.kd 24<13 then ⟨3,bn g.a 3,0,0,0,0,0,0,0,0,0⟩
 else if bn g.kd 24=13 then ⟨4,0,0,bn g.c 20,0,0,0,0,0,0,0⟩
 else if bn g.kd 24=14 then ⟨5,0,0,bn g.c 20,0,0,0,0,0,0,0⟩
 else if bn g.kd 24=15 then ⟨6,0,0,bn g.c 20,0,0,0,0,0,0,0⟩
 else if bn g.kd 24=16 then ⟨10,bn g.a 3,bn g.b 2,0,0,0,0,0,0,0,0⟩
 else if bn g.kd 24=17/\cr=true then ⟨8,bn g.a 3,0,0,bn g.c 120,0,0,0,0,0,0⟩
 else if bn g.kd 24=18/\cr=true then ⟨9,bn g.a 3,0,0,0,0,0,0,0,0,0⟩
 else ⟨7,0,0,0,0,0,0,0,0,0,0⟩
theorem fT {n m:Int} (hn: -9223372036854775808<=n/\n<=9223372036854775807) (hm:0<m) (w:World):
    Calls Tryz.prog 32 #[iV n,iV m] w (λe w'=>e= .returned (iV (bn n m))/\w'=w):=by
 have S:=St.start w;refine gq 13 Tryz.func32 ?_;refine cw [0,1] ?_;refine zN 9 ?_;by_cases h1:n<0
 ·refine zN 6 ?_;refine vv (v:=iV (n+1)) gu ?_;refine vv (v:=iV (-(n+1))) (aeS rfl rfl (ayd (by omega))) ?_;refine zN 7 ?_;refine vv (v:=iV ((-(n+1)) % m)) (aR rfl rfl rfl (afY (by omega) hm)) ?_;refine zN 5 ?_;rw [show bn n m=((-(n+1)) % m) from by unfold bn;first | rw [if_pos (by omega)] | rw [if_neg (by omega)]];exact ⟨rfl,rfl⟩
 refine zN 10 ?_;refine vv (v:=iV (n % m)) (aR rfl rfl rfl (afY (by omega) hm)) ?_;refine zN 5 ?_;rw [show bn n m=(n % m) from by unfold bn;first | rw [if_pos (by omega)] | rw [if_neg (by omega)]];exact ⟨rfl,rfl⟩
theorem kT {n m:Int} (hn: -9223372036854775808<=n/\n<=9223372036854775807) (hm:0<m) (w:World):
    Calls Tryz.prog 18 #[iV n,iV m] w (λe w'=>e= .returned (iV (bn n m))/\w'=w):=by
 have S:=St.start w;refine gq 8 Tryz.func18 ?_;refine cw [0,1] ?_;refine zN 9 ?_;refine dz Au (fT hn hm _) ?_;rintro _ w1 ⟨rfl,rfl⟩;refine ⟨_,rfl,?_⟩;refine zN 5 ?_;exact ⟨rfl,rfl⟩
theorem WH {k a b c:Int} (h1:MQ k) (h2:MQ a) (h3:MQ b) (h4:MQ c) (w:World):
    Calls Tryz.prog 49 #[.agg #[iV k,iV a,iV b,iV c]] w (λe w'=>e= .returned (.agg (Ev.cells (nC k a b c)).toArray)/\Below w.heap.size w w'):=by
 have S:=St.start w;refine gq 36 Tryz.func49 ?_;refine cw [0] ?_;refine zN 2 ?_;refine iP S ?_;intro b1 w2 S3;refine fJ S3 abF ?_;intro b4 w5 S6;refine zQ ?_;refine KA (vv (fO 0 aam) ?_);refine zQ ?_;refine dz Au (fT (m:=8) h1 (by decide) _) ?_;rintro _ w7 ⟨rfl,rfl⟩;refine ⟨_,rfl,?_⟩;refine zN 5 ?_;have hp:=mY (n:=k) (m:=8) (by decide);refine zQ ?_;by_cases h8:(bn k 8)=0
 ·refine zN 9 ?_;have S9:=S6.drew;refine fH 11 10 S9 [] ?_;refine gk (v:= .pointer (some ⟨b1,1,none⟩)) 0 rfl S9 (λ_ _=>fO _ Bt) ?_;refine gW ?_;refine gk (v:= .pointer (some ⟨b1,2,none⟩)) 3 rfl S9 (λ_ _=>fO _ Bu) ?_;refine gW ?_;refine gk (v:= .pointer (some ⟨b1,3,none⟩)) 6 rfl S9 (λ_ _=>fO _ JL) ?_;refine gW ?_;refine fq (m:=4) (r:=2) (by kernel_rfl) ?_;refine lN (i:=2) rfl rfl (wn rfl) rfl rfl (jc (vs:=[iV a,iV 2]) rfl Au ⟨rfl,rfl,trivial⟩) (fT (m:=2) h2 (by decide) _) ?_;rintro _ w16 ⟨rfl,rfl⟩;refine ⟨_,rfl,?_⟩;refine gW ?_;refine fq (m:=3) (r:=5) (by kernel_rfl) ?_;refine lN (i:=5) rfl rfl (wn rfl) rfl rfl (jc (vs:=[iV b,iV 24]) rfl Au ⟨rfl,rfl,trivial⟩) (fT (m:=24) h3 (by decide) _) ?_;rintro _ Ms ⟨rfl,rfl⟩;refine ⟨_,rfl,?_⟩;refine gW ?_;refine fq (m:=2) (r:=8) (by kernel_rfl) ?_;refine lN (i:=8) rfl rfl (wn rfl) rfl rfl (jc (vs:=[iV c,iV 1000]) rfl Au ⟨rfl,rfl,trivial⟩) (fT (m:=1000) h4 (by decide) _) ?_;rintro _ DK ⟨rfl,rfl⟩;refine ⟨_,rfl,?_⟩;refine gW ?_;refine gk (v:= .agg #[iV 1,iV (bn a 2),iV (bn b 24),iV (bn c 1000),iV 0,iV 0]) 9 rfl S9 (λ_ _=>gF) ?_;refine eP (by kernel_rfl) rfl rfl rfl ?_;refine sa 0 S9 iC ?_;intro Ou lH;refine zQ ?_;refine jk ?_;refine zN 5 ?_;rw [show nC k a b c=⟨1,(bn a 2),(bn b 24),(bn c 1000),0,0⟩ from by unfold nC;first | rw [if_pos (by omega)] | rw [if_neg (by omega),if_pos (by omega)] | rw [if_neg (by omega),if_neg (by omega),if_pos (by omega)] | rw [if_neg (by omega),if_neg (by omega),if_neg (by omega)]];exact ⟨rfl,lH.low⟩
 refine zN 7 ?_;by_cases h22:(bn k 8)=1
 ·refine zN 9 ?_;have nP:=S6.drew;refine fH 11 10 nP [] ?_;refine gk (v:= .pointer (some ⟨b1,1,none⟩)) 0 rfl nP (λ_ _=>fO _ Bt) ?_;refine gW ?_;refine gk (v:= .pointer (some ⟨b1,2,none⟩)) 3 rfl nP (λ_ _=>fO _ Bu) ?_;refine gW ?_;refine gk (v:= .pointer (some ⟨b1,3,none⟩)) 6 rfl nP (λ_ _=>fO _ JL) ?_;refine gW ?_;refine fq (m:=4) (r:=2) (by kernel_rfl) ?_;refine lN (i:=2) rfl rfl (wn rfl) rfl rfl (jc (vs:=[iV a,iV 2]) rfl Au ⟨rfl,rfl,trivial⟩) (fT (m:=2) h2 (by decide) _) ?_;rintro _ Xe ⟨rfl,rfl⟩;refine ⟨_,rfl,?_⟩;refine gW ?_;refine fq (m:=3) (r:=5) (by kernel_rfl) ?_;refine lN (i:=5) rfl rfl (wn rfl) rfl rfl (jc (vs:=[iV b,iV 24]) rfl Au ⟨rfl,rfl,trivial⟩) (fT (m:=24) h3 (by decide) _) ?_;rintro _ w31 ⟨rfl,rfl⟩;refine ⟨_,rfl,?_⟩;refine gW ?_;refine fq (m:=2) (r:=8) (by kernel_rfl) ?_;refine lN (i:=8) rfl rfl (wn rfl) rfl rfl (jc (vs:=[iV c,iV 1000]) rfl Au ⟨rfl,rfl,trivial⟩) (fT (m:=1000) h4 (by decide) _) ?_;rintro _ w32 ⟨rfl,rfl⟩;refine ⟨_,rfl,?_⟩;refine gW ?_;refine gk (v:= .agg #[iV 1,iV (bn a 2),iV (bn b 24),iV (bn c 1000),iV 0,iV 0]) 9 rfl nP (λ_ _=>gF) ?_;refine eP (by kernel_rfl) rfl rfl rfl ?_;refine sa 0 nP iC ?_;intro Xm pF;refine zQ ?_;refine jk ?_;refine zN 5 ?_;rw [show nC k a b c=⟨1,(bn a 2),(bn b 24),(bn c 1000),0,0⟩ from by unfold nC;first | rw [if_pos (by omega)] | rw [if_neg (by omega),if_pos (by omega)] | rw [if_neg (by omega),if_neg (by omega),if_pos (by omega)] | rw [if_neg (by omega),if_neg (by omega),if_neg (by omega)]];exact ⟨rfl,pF.low⟩
 refine zN 6 ?_;by_cases yU:(bn k 8)=2
 ·refine zN 6 ?_;have qL:=S6.drew;refine fH 11 10 qL [] ?_;refine gk (v:= .pointer (some ⟨b1,1,none⟩)) 0 rfl qL (λ_ _=>fO _ Bt) ?_;refine gW ?_;refine gk (v:= .pointer (some ⟨b1,2,none⟩)) 3 rfl qL (λ_ _=>fO _ Bu) ?_;refine gW ?_;refine gk (v:= .pointer (some ⟨b1,3,none⟩)) 6 rfl qL (λ_ _=>fO _ JL) ?_;refine gW ?_;refine fq (m:=4) (r:=2) (by kernel_rfl) ?_;refine lN (i:=2) rfl rfl (wn rfl) rfl rfl (jc (vs:=[iV a,iV 2]) rfl Au ⟨rfl,rfl,trivial⟩) (fT (m:=2) h2 (by decide) _) ?_;rintro _ Sn ⟨rfl,rfl⟩;refine ⟨_,rfl,?_⟩;refine gW ?_;refine fq (m:=3) (r:=5) (by kernel_rfl) ?_;refine lN (i:=5) rfl rfl (wn rfl) rfl rfl (jc (vs:=[iV b,iV 24]) rfl Au ⟨rfl,rfl,trivial⟩) (fT (m:=24) h3 (by decide) _) ?_;rintro _ w45 ⟨rfl,rfl⟩;refine ⟨_,rfl,?_⟩;refine gW ?_;refine fq (m:=2) (r:=8) (by kernel_rfl) ?_;refine lN (i:=8) rfl rfl (wn rfl) rfl rfl (jc (vs:=[iV c,iV 1000]) rfl Au ⟨rfl,rfl,trivial⟩) (fT (m:=1000) h4 (by decide) _) ?_;rintro _ Xi ⟨rfl,rfl⟩;refine ⟨_,rfl,?_⟩;refine gW ?_;refine gk (v:= .agg #[iV 1,iV (bn a 2),iV (bn b 24),iV (bn c 1000),iV 0,iV 0]) 9 rfl qL (λ_ _=>gF) ?_;refine eP (by kernel_rfl) rfl rfl rfl ?_;refine sa 0 qL iC ?_;intro w48 uz;refine zQ ?_;refine jk ?_;refine zN 5 ?_;rw [show nC k a b c=⟨1,(bn a 2),(bn b 24),(bn c 1000),0,0⟩ from by unfold nC;first | rw [if_pos (by omega)] | rw [if_neg (by omega),if_pos (by omega)] | rw [if_neg (by omega),if_neg (by omega),if_pos (by omega)] | rw [if_neg (by omega),if_neg (by omega),if_neg (by omega)]];exact ⟨rfl,uz.low⟩
 refine zN 8 ?_;by_cases h50:(bn k 8)=3
 ·refine zN 10 ?_;refine vv (v:= .agg #[iV 2,iV 0,iV 0,iV 0,iV 0,iV 0]) gF ?_;refine sa 0 S6 iC ?_;intro Xc kS;refine zN 6 ?_;rw [show nC k a b c=⟨2,0,0,0,0,0⟩ from by unfold nC;first | rw [if_pos (by omega)] | rw [if_neg (by omega),if_pos (by omega)] | rw [if_neg (by omega),if_neg (by omega),if_pos (by omega)] | rw [if_neg (by omega),if_neg (by omega),if_neg (by omega)]];exact ⟨rfl,kS.low⟩
 refine zN 6 ?_;by_cases h53:(bn k 8)=4
 ·refine zN 7 ?_;refine vv (v:= .agg #[iV 2,iV 0,iV 0,iV 0,iV 0,iV 0]) gF ?_;refine sa 0 S6 iC ?_;intro w54 u6;refine zN 6 ?_;rw [show nC k a b c=⟨2,0,0,0,0,0⟩ from by unfold nC;first | rw [if_pos (by omega)] | rw [if_neg (by omega),if_pos (by omega)] | rw [if_neg (by omega),if_neg (by omega),if_pos (by omega)] | rw [if_neg (by omega),if_neg (by omega),if_neg (by omega)]];exact ⟨rfl,u6.low⟩
 refine zN 8 ?_;by_cases h56:(bn k 8)=5
 ·refine zN 9 ?_;have rP:=S6.drew;refine fH 9 8 rP [] ?_;refine gk (v:= .pointer (some ⟨b1,1,none⟩)) 0 rfl rP (λ_ _=>fO _ Bt) ?_;refine gW ?_;refine gk (v:= .pointer (some ⟨b1,2,none⟩)) 3 rfl rP (λ_ _=>fO _ Bu) ?_;refine gW ?_;refine fq (m:=4) (r:=2) (by kernel_rfl) ?_;refine lN (i:=2) rfl rfl (wn rfl) rfl rfl (jc (vs:=[iV a,iV 3]) rfl Au ⟨rfl,rfl,trivial⟩) (fT (m:=3) h2 (by decide) _) ?_;rintro _ w62 ⟨rfl,rfl⟩;refine ⟨_,rfl,?_⟩;refine gW ?_;refine fq (m:=3) (r:=5) (by kernel_rfl) ?_;refine lN (i:=5) rfl rfl (wn rfl) rfl rfl (jc (vs:=[iV b,iV 6]) rfl Au ⟨rfl,rfl,trivial⟩) (fT (m:=6) h3 (by decide) _) ?_;rintro _ w63 ⟨rfl,rfl⟩;refine ⟨_,rfl,?_⟩;refine gW ?_;refine gk (v:= .agg #[iV (bn a 3),iV (bn b 6)]) 6 rfl rP (λ_ _=>gF) ?_;refine gk (v:= .agg #[iV 3,iV 0,iV 0,iV 0,iV (bn a 3),iV (bn b 6)]) 7 rfl rP (λ_ _=>gF) ?_;refine eP (by kernel_rfl) rfl rfl rfl ?_;refine sa 0 rP iC ?_;intro Xd uZ;refine zQ ?_;refine jk ?_;refine zN 5 ?_;rw [show nC k a b c=⟨3,0,0,0,(bn a 3),(bn b 6)⟩ from by unfold nC;first | rw [if_pos (by omega)] | rw [if_neg (by omega),if_pos (by omega)] | rw [if_neg (by omega),if_neg (by omega),if_pos (by omega)] | rw [if_neg (by omega),if_neg (by omega),if_neg (by omega)]];exact ⟨rfl,uZ.low⟩
 refine zN 6 ?_;by_cases h68:(bn k 8)=6
 ·refine zN 6 ?_;have u7:=S6.drew;refine fH 9 8 u7 [] ?_;refine gk (v:= .pointer (some ⟨b1,1,none⟩)) 0 rfl u7 (λ_ _=>fO _ Bt) ?_;refine gW ?_;refine gk (v:= .pointer (some ⟨b1,2,none⟩)) 3 rfl u7 (λ_ _=>fO _ Bu) ?_;refine gW ?_;refine fq (m:=4) (r:=2) (by kernel_rfl) ?_;refine lN (i:=2) rfl rfl (wn rfl) rfl rfl (jc (vs:=[iV a,iV 3]) rfl Au ⟨rfl,rfl,trivial⟩) (fT (m:=3) h2 (by decide) _) ?_;rintro _ w74 ⟨rfl,rfl⟩;refine ⟨_,rfl,?_⟩;refine gW ?_;refine fq (m:=3) (r:=5) (by kernel_rfl) ?_;refine lN (i:=5) rfl rfl (wn rfl) rfl rfl (jc (vs:=[iV b,iV 6]) rfl Au ⟨rfl,rfl,trivial⟩) (fT (m:=6) h3 (by decide) _) ?_;rintro _ w75 ⟨rfl,rfl⟩;refine ⟨_,rfl,?_⟩;refine gW ?_;refine gk (v:= .agg #[iV (bn a 3),iV (bn b 6)]) 6 rfl u7 (λ_ _=>gF) ?_;refine gk (v:= .agg #[iV 3,iV 0,iV 0,iV 0,iV (bn a 3),iV (bn b 6)]) 7 rfl u7 (λ_ _=>gF) ?_;refine eP (by kernel_rfl) rfl rfl rfl ?_;refine sa 0 u7 iC ?_;intro w78 DN;refine zQ ?_;refine jk ?_;refine zN 5 ?_;rw [show nC k a b c=⟨3,0,0,0,(bn a 3),(bn b 6)⟩ from by unfold nC;first | rw [if_pos (by omega)] | rw [if_neg (by omega),if_pos (by omega)] | rw [if_neg (by omega),if_neg (by omega),if_pos (by omega)] | rw [if_neg (by omega),if_neg (by omega),if_neg (by omega)]];exact ⟨rfl,DN.low⟩
 refine zN 10 ?_;refine vv (v:= .agg #[iV 4,iV 0,iV 0,iV 0,iV 0,iV 0]) gF ?_;refine sa 0 S6 iC ?_;intro w80 vT;refine zN 4 ?_;rw [show nC k a b c=⟨4,0,0,0,0,0⟩ from by unfold nC;first | rw [if_pos (by omega)] | rw [if_neg (by omega),if_pos (by omega)] | rw [if_neg (by omega),if_neg (by omega),if_pos (by omega)] | rw [if_neg (by omega),if_neg (by omega),if_neg (by omega)]];exact ⟨rfl,vT.low⟩
theorem WI {k a b c:Int} (h1:MQ k) (h2:MQ a) (h3:MQ b) (h4:MQ c) (w:World):
    Calls Tryz.prog 35 #[.agg #[iV k,iV a,iV b,iV c]] w (λe w'=>e= .returned (.agg (Ev.cells (nC k a b c)).toArray)/\Below w.heap.size w w'):=by
 have S:=St.start w;refine gq 5 Tryz.func35 ?_;refine cw [0] ?_;refine zN 2 ?_;refine iP S ?_;intro b1 w2 S3;refine fJ S3 abF ?_;intro b4 w5 S6;refine zQ ?_;refine XU (vv (aj rfl rfl (oQ 1 S6 rfl Tryz.underlying101 rfl ae6 rfl)) ?_);refine cab aAn S6 (WH h1 h2 h3 h4 _) ?_;intro w7 S8;refine sa 0 S8 iC ?_;intro w10 tu;refine zN 4 ?_;exact ⟨rfl,tu.low⟩
theorem adX {g:Gr} (h:g.ok) (cr:Bool) (w:World):
    Calls Tryz.prog 22 #[.agg #[iV g.kd,iV g.a,iV g.b,iV g.c,iV g.d],.bool cr] w (λe w'=>e= .returned (.agg (Ac.cells (gX g cr)).toArray)/\Below w.heap.size w w'):=by
 have S:=St.start w;refine gq 91 Tryz.func22 ?_;refine cw [0,1] ?_;refine zN 2 ?_;refine iP S ?_;intro b1 w2 S3;refine fJ S3 aiq ?_;intro b4 w5 S6;refine zQ ?_;refine XU (vv (fO 1 Rl) ?_);refine zQ ?_;refine dz PU (kT (m:=3) h.2.1 (by decide) _) ?_;rintro _ w7 ⟨rfl,rfl⟩;refine ⟨_,rfl,?_⟩;refine zN 2 ?_;refine XU (vv (fO 2 aak) ?_);refine zQ ?_;refine dz PU (kT (m:=2) h.2.2.1 (by decide) _) ?_;rintro _ w8 ⟨rfl,rfl⟩;refine ⟨_,rfl,?_⟩;refine zN 2 ?_;refine KA (vv (fO 0 aaj) ?_);refine zQ ?_;refine dz PU (kT (m:=24) h.1 (by decide) _) ?_;rintro _ w9 ⟨rfl,rfl⟩;refine ⟨_,rfl,?_⟩;refine zN 7 ?_;by_cases h10:(bn g.kd 24)<7
 ·refine zN 3 ?_;refine CZ (vv (fO 3 Bq) ?_);refine zQ ?_;refine vv (fO 1 Rl) ?_;refine zQ ?_;refine vv (fO 4 Rm) ?_;refine zQ ?_;refine vv (fO 4 Rm) ?_;refine zQ ?_;refine vv (v:= .agg #[iV g.c,iV g.a,iV g.d,iV g.d]) gF ?_;refine cab aAa S6 (WI h.2.2.2.1 h.2.1 h.2.2.2.2 h.2.2.2.2 _) ?_;intro Cc kE;refine fJ kE abF ?_;intro b14 KI l6;refine sa 0 l6 iC ?_;intro Ms jl;refine zN 7 ?_;by_cases h19:(nC g.c g.a g.d g.d).kind=4
  ·refine zN 6 ?_;refine Jd 0 jl nM ?_;intro Ou lH;refine zN 7 ?_;refine vv (v:= .agg #[iV 2,iV (bn g.a 3),iV (bn g.b 2),iV 0,iV 0,iV 2,iV ((nC g.c g.a g.d g.d).producer),iV ((nC g.c g.a g.d g.d).id),iV ((nC g.c g.a g.d g.d).body),iV ((nC g.c g.a g.d g.d).aG),iV ((nC g.c g.a g.d g.d).hno)]) gF ?_;refine sa 1 lH kP ?_;intro w22 nP;refine zN 6 ?_;rw [show gX g cr=⟨2,(bn g.a 3),(bn g.b 2),0,0,2,(nC g.c g.a g.d g.d).producer,(nC g.c g.a g.d g.d).id,(nC g.c g.a g.d g.d).body,(nC g.c g.a g.d g.d).aG,(nC g.c g.a g.d g.d).hno⟩ from by unfold gX;rw [if_pos (by omega),YC,if_pos (by assumption)]];exact ⟨rfl,nP.low⟩
  refine zN 11 ?_;refine vv (v:= .agg #[iV 2,iV (bn g.a 3),iV (bn g.b 2),iV 0,iV 0,iV ((nC g.c g.a g.d g.d).kind),iV ((nC g.c g.a g.d g.d).producer),iV ((nC g.c g.a g.d g.d).id),iV ((nC g.c g.a g.d g.d).body),iV ((nC g.c g.a g.d g.d).aG),iV ((nC g.c g.a g.d g.d).hno)]) gF ?_;refine sa 1 jl kP ?_;intro Ot jB;refine zN 6 ?_;rw [show gX g cr=⟨2,(bn g.a 3),(bn g.b 2),0,0,(nC g.c g.a g.d g.d).kind,(nC g.c g.a g.d g.d).producer,(nC g.c g.a g.d g.d).id,(nC g.c g.a g.d g.d).body,(nC g.c g.a g.d g.d).aG,(nC g.c g.a g.d g.d).hno⟩ from by unfold gX;rw [if_pos (by omega),YC,if_neg (by assumption)]];exact ⟨rfl,jB.low⟩
 refine zN 8 ?_;by_cases h26:(bn g.kd 24)<13
 ·refine zN 8 ?_;refine vv (v:= .agg #[iV 3,iV (bn g.a 3),iV 0,iV 0,iV 0,iV 0,iV 0,iV 0,iV 0,iV 0,iV 0]) gF ?_;refine sa 0 S6 kP ?_;intro P7 uy;refine zN 6 ?_;rw [show gX g cr=⟨3,(bn g.a 3),0,0,0,0,0,0,0,0,0⟩ from by unfold gX;rw [if_neg (by omega),if_pos (by omega)]];exact ⟨rfl,uy.low⟩
 refine zN 8 ?_;by_cases h29:(bn g.kd 24)=13
 ·refine zN 3 ?_;refine CZ (vv (fO 3 Bq) ?_);refine zQ ?_;refine dz PU (kT (m:=20) h.2.2.2.1 (by decide) _) ?_;rintro _ Xe ⟨rfl,rfl⟩;refine ⟨_,rfl,?_⟩;refine vv (v:= .agg #[iV 4,iV 0,iV 0,iV (bn g.c 20),iV 0,iV 0,iV 0,iV 0,iV 0,iV 0,iV 0]) gF ?_;refine sa 0 S6 kP ?_;intro w31 qC;refine zN 6 ?_;rw [show gX g cr=⟨4,0,0,(bn g.c 20),0,0,0,0,0,0,0⟩ from by unfold gX;rw [if_neg (by omega),if_neg (by omega),if_pos (by omega)]];exact ⟨rfl,qC.low⟩
 refine zN 8 ?_;by_cases h33:(bn g.kd 24)=14
 ·refine zN 3 ?_;refine CZ (vv (fO 3 Bq) ?_);refine zQ ?_;refine dz PU (kT (m:=20) h.2.2.2.1 (by decide) _) ?_;rintro _ Xm ⟨rfl,rfl⟩;refine ⟨_,rfl,?_⟩;refine vv (v:= .agg #[iV 5,iV 0,iV 0,iV (bn g.c 20),iV 0,iV 0,iV 0,iV 0,iV 0,iV 0,iV 0]) gF ?_;refine sa 0 S6 kP ?_;intro w35 nW;refine zN 6 ?_;rw [show gX g cr=⟨5,0,0,(bn g.c 20),0,0,0,0,0,0,0⟩ from by unfold gX;rw [if_neg (by omega),if_neg (by omega),if_neg (by omega),if_pos (by omega)]];exact ⟨rfl,nW.low⟩
 refine zN 8 ?_;by_cases h37:(bn g.kd 24)=15
 ·refine zN 3 ?_;refine CZ (vv (fO 3 Bq) ?_);refine zQ ?_;refine dz PU (kT (m:=20) h.2.2.2.1 (by decide) _) ?_;rintro _ w38 ⟨rfl,rfl⟩;refine ⟨_,rfl,?_⟩;refine vv (v:= .agg #[iV 6,iV 0,iV 0,iV (bn g.c 20),iV 0,iV 0,iV 0,iV 0,iV 0,iV 0,iV 0]) gF ?_;refine sa 0 S6 kP ?_;intro w39 uD;refine zN 6 ?_;rw [show gX g cr=⟨6,0,0,(bn g.c 20),0,0,0,0,0,0,0⟩ from by unfold gX;rw [if_neg (by omega),if_neg (by omega),if_neg (by omega),if_neg (by omega),if_pos (by omega)]];exact ⟨rfl,uD.low⟩
 refine zN 8 ?_;by_cases h41:(bn g.kd 24)=16
 ·refine zN 9 ?_;refine vv (v:= .agg #[iV 10,iV (bn g.a 3),iV (bn g.b 2),iV 0,iV 0,iV 0,iV 0,iV 0,iV 0,iV 0,iV 0]) gF ?_;refine sa 0 S6 kP ?_;intro Uw qB;refine zN 6 ?_;rw [show gX g cr=⟨10,(bn g.a 3),(bn g.b 2),0,0,0,0,0,0,0,0⟩ from by unfold gX;rw [if_neg (by omega),if_neg (by omega),if_neg (by omega),if_neg (by omega),if_neg (by omega),if_pos (by omega)]];exact ⟨rfl,qB.low⟩
 refine zN 6 ?_;have hp:=mY (n:=g.kd) (m:=24) (by decide)
 cases cr with
 | false=>
  refine zN 2 ?_;by_cases h44:(bn g.kd 24)=17
  ·refine zN 24 ?_;refine vv (v:= .agg #[iV 7,iV 0,iV 0,iV 0,iV 0,iV 0,iV 0,iV 0,iV 0,iV 0,iV 0]) gF ?_;refine sa 0 S6 kP ?_;intro w45 qW;refine zN 4 ?_;rw [show gX g false=⟨7,0,0,0,0,0,0,0,0,0,0⟩ from by unfold gX;rw [if_neg (by omega),if_neg (by omega),if_neg (by omega),if_neg (by omega),if_neg (by omega),if_neg (by omega),if_neg (λh=>by have:=h.2;cases this),if_neg (λh=>by have:=h.2;cases this)]];exact ⟨rfl,qW.low⟩
  refine zN 11 ?_;by_cases h47:(bn g.kd 24)=18
  ·refine zN 13 ?_;refine vv (v:= .agg #[iV 7,iV 0,iV 0,iV 0,iV 0,iV 0,iV 0,iV 0,iV 0,iV 0,iV 0]) gF ?_;refine sa 0 S6 kP ?_;intro w48 uz;refine zN 4 ?_;rw [show gX g false=⟨7,0,0,0,0,0,0,0,0,0,0⟩ from by unfold gX;rw [if_neg (by omega),if_neg (by omega),if_neg (by omega),if_neg (by omega),if_neg (by omega),if_neg (by omega),if_neg (λh=>by have:=h.2;cases this),if_neg (λh=>by have:=h.2;cases this)]];exact ⟨rfl,uz.low⟩
  refine zN 13 ?_;refine vv (v:= .agg #[iV 7,iV 0,iV 0,iV 0,iV 0,iV 0,iV 0,iV 0,iV 0,iV 0,iV 0]) gF ?_;refine sa 0 S6 kP ?_;intro Xf uq;refine zN 4 ?_;rw [show gX g false=⟨7,0,0,0,0,0,0,0,0,0,0⟩ from by unfold gX;rw [if_neg (by omega),if_neg (by omega),if_neg (by omega),if_neg (by omega),if_neg (by omega),if_neg (by omega),if_neg (λh=>by have:=h.2;cases this),if_neg (λh=>by have:=h.2;cases this)]];exact ⟨rfl,uq.low⟩
 | true=>
  refine zN 2 ?_;by_cases h52:(bn g.kd 24)=17
  ·refine zN 11 ?_;refine vv (fO 3 Bq) ?_;refine zQ ?_;refine dz PU (kT (m:=120) h.2.2.2.1 (by decide) _) ?_;rintro _ w53 ⟨rfl,rfl⟩;refine ⟨_,rfl,?_⟩;refine vv (v:= .agg #[iV 8,iV (bn g.a 3),iV 0,iV 0,iV (bn g.c 120),iV 0,iV 0,iV 0,iV 0,iV 0,iV 0]) gF ?_;refine sa 0 S6 kP ?_;intro w54 u6;refine zN 6 ?_;rw [show gX g true=⟨8,(bn g.a 3),0,0,(bn g.c 120),0,0,0,0,0,0⟩ from by unfold gX;rw [if_neg (by omega),if_neg (by omega),if_neg (by omega),if_neg (by omega),if_neg (by omega),if_neg (by omega),if_pos ⟨by omega,rfl⟩]];exact ⟨rfl,u6.low⟩
  refine zN 11 ?_;by_cases h56:(bn g.kd 24)=18
  ·refine zN 11 ?_;refine vv (v:= .agg #[iV 9,iV (bn g.a 3),iV 0,iV 0,iV 0,iV 0,iV 0,iV 0,iV 0,iV 0,iV 0]) gF ?_;refine sa 0 S6 kP ?_;intro w57 DT;refine zN 6 ?_;rw [show gX g true=⟨9,(bn g.a 3),0,0,0,0,0,0,0,0,0⟩ from by unfold gX;rw [if_neg (by omega),if_neg (by omega),if_neg (by omega),if_neg (by omega),if_neg (by omega),if_neg (by omega),if_neg (λh=>by have:=h.1;omega),if_pos ⟨by omega,rfl⟩]];exact ⟨rfl,DT.low⟩
  refine zN 13 ?_;refine vv (v:= .agg #[iV 7,iV 0,iV 0,iV 0,iV 0,iV 0,iV 0,iV 0,iV 0,iV 0,iV 0]) gF ?_;refine sa 0 S6 kP ?_;intro w59 Xh;refine zN 4 ?_;rw [show gX g true=⟨7,0,0,0,0,0,0,0,0,0,0⟩ from by unfold gX;rw [if_neg (by omega),if_neg (by omega),if_neg (by omega),if_neg (by omega),if_neg (by omega),if_neg (by omega),if_neg (λh=>by have:=h.1;omega),if_neg (λh=>by have:=h.1;omega)]];exact ⟨rfl,Xh.low⟩
theorem aso (x:Ac): ∀ u∈x.cells,u.oneCell'=true:=bX rfl
theorem Vp (l:List Ac): ∀ u∈l.flatMap Ac.cells,u.oneCell'=true:=by
 intro u hu;rw [List.mem_flatMap] at hu;obtain ⟨z,_,hz⟩:=hu;exact aso z u hz
def Ap (k n:Int):Ac:=⟨k,n,0,0,0,0,0,0,0,0,0⟩
def mks:List Ac:=[⟨1,0,0,0,0,0,0,0,0,0,0⟩,⟨1,1,1,0,0,0,0,0,0,0,0⟩]
def bG (gs:List Gr) (m:Nat) (cr:Bool):List Ac:=mks++(gs.take m).map (gX · cr)
theorem WJ {gs:List Gr} {k:Nat} {g:Gr} {cr:Bool} (h:gs[k]? =some g):bG gs (k+1) cr=bG gs k cr++[gX g cr]:=by
 unfold bG;rw [List.take_add_one,h];simp
theorem MR {gs:List Gr} {k m:Nat} {cr:Bool} (h1:k<=gs.length) (h2:k<=m) (h3:k=gs.length\/k=m):bG gs k cr=bG gs m cr:=by
 rcases h3 with rfl | rfl
 ·unfold bG;rw [List.take_of_length_le (Nat.le_refl _),List.take_of_length_le h2]
 rfl
theorem MS {gs:List Gr} {k:Nat} {cr:Bool} (h:k<=gs.length):(bG gs k cr).length=2+k:=by
 unfold bG mks;simp;omega
def starts (k:Nat):List Ac:=(List.range k).map λ(n:Nat)=>Ap 9 (n:Int)
def steps (k:Nat):List Ac:=(List.range k).map λ(n:Nat)=>Ap 3 (n:Int)
def wz:Nat->List Ac
 | 0=>[]
 | i+1=>wz i++steps 5++[Ap 7 0]
theorem WK (k:Nat):starts (k+1)=starts k++[Ap 9 (k:Int)]:=by unfold starts;rw [List.range_succ,List.map_append];rfl
theorem ZM (k:Nat):steps (k+1)=steps k++[Ap 3 (k:Int)]:=by unfold steps;rw [List.range_succ,List.map_append];rfl
theorem Iw (i:Nat):wz (i+1)=wz i++steps 5++[Ap 7 0]:=rfl
theorem LJ: ∀ i,(wz i).length=6*i
 | 0=>rfl
 | i+1=>by rw [wz,List.length_append,List.length_append,LJ i];simp [steps];omega
def jv (l:List Ac) (r:Nat):List Ac:=l++starts 5++wz r
theorem Vq {l:List Ac} {r:Nat}:(jv l r).length=l.length+5+6*r:=by
 unfold jv;rw [List.length_append,List.length_append,LJ];simp [starts]
theorem GK {gs:List Gr} {A:Option Addr} {c m:Nat} {cr:Bool} (hm:m<=1000) (hg: ∀ g∈gs,g.ok) (w:World) (h:Rd w w.heap.size 5 A gs.length (gs.flatMap Gr.cells)):
    Calls Tryz.prog 11 #[.slice A gs.length c,iV ((m:Nat):Int),.bool cr] w (λe w'=> ∃ A' c',e= .returned (.slice A' ((bG gs m cr).length) c')/\St w.heap.size w w' [.own 69 11 (.slice A' ((bG gs m cr).length) c') ((bG gs m cr).length) ((bG gs m cr).flatMap Ac.cells)]):=by
 have S:=(St.start w).bU h;refine gq 35 Tryz.func11 ?_;refine cw [0,1,2] ?_;refine zN 7 ?_;refine vv (v:= .agg #[iV 1,iV 0,iV 0,iV 0,iV 0,iV 0,iV 0,iV 0,iV 0,iV 0,iV 0]) gF ?_;refine vv (v:= .agg #[iV 1,iV 1,iV 1,iV 0,iV 0,iV 0,iV 0,iV 0,iV 0,iV 0,iV 0]) gF ?_;refine rF (V:=λb=> .slice (some ⟨b,0,none⟩) 2 2) (row:=(mks.flatMap Ac.cells).toArray) (t:=69) (n:=2) (s:=11) (xs:=mks.flatMap Ac.cells) S (wn rfl) rfl rfl (bg (vs:=[(0,.agg #[iV 1,iV 0,iV 0,iV 0,iV 0,iV 0,iV 0,iV 0,iV 0,iV 0,iV 0]),(1,.agg #[iV 1,iV 1,iV 1,iV 0,iV 0,iV 0,iV 0,iV 0,iV 0,iV 0,iV 0])]) rfl ⟨rfl,rfl,rfl,rfl,trivial⟩ (by kernel_rfl)) rfl (by decide) rfl ?_;intro b1 w2 S3;refine zN 10 ?_;refine cZ (X:=Nat×(Option Addr)×Nat) (λxv=>[(0,.slice A gs.length c),(1,iV ((m:Nat):Int)),(2,.bool cr),(6,.slice none 0 0),(7,.slice xv.2.1 (2+xv.1) xv.2.2),(8,iV ((xv.1:Nat):Int))]) (λxv wr=>(xv.1<=gs.length)/\(xv.1<=m)/\St w.heap.size w wr [.own 69 11 (.slice xv.2.1 (2+xv.1) xv.2.2) (2+xv.1) ((bG gs xv.1 cr).flatMap Ac.cells),.rd 5 A gs.length ((gs).flatMap Gr.cells)]) (λxv=>gs.length-xv.1) (0,(some ⟨b1,0,none⟩),2) ?_ ?_ ?_
 ·exact ⟨Nat.zero_le _,Nat.zero_le _,S3⟩
 ·exact ⟨rfl,rfl,rfl,rfl,rfl,rfl,trivial⟩
 rintro ⟨k,Ab,cb⟩ w4 ⟨Ip,Jr,S5⟩
 try dsimp only at Ip Jr S5
 refine bq (l':=[(0,.slice A gs.length c),(1,iV ((m:Nat):Int)),(2,.bool cr),(6,.slice none 0 0),(7,.slice Ab (2+k) cb),(8,iV ((k:Nat):Int))]) ⟨rfl,rfl,rfl,rfl,rfl,rfl,trivial⟩ (aH (aH (aC (vm ?_))));refine zQ ?_;refine vv (v:=iV ((gs.length:Nat):Int)) (rE (vs:=[.slice A gs.length c]) rfl ⟨rfl,trivial⟩ λ_=>amx rfl Tryz.underlying22) ?_;by_cases h8:((k:Nat):Int)< ((gs.length:Nat):Int)
 ·refine zN 4 ?_;by_cases h9:((k:Nat):Int)< ((m:Nat):Int)
  ·refine zN 13 ?_;obtain ⟨b10,o11,rfl⟩:=Rd.addr (St.rd 1 S5 rfl) (by omega);obtain ⟨Dh,apu⟩:=zL k (St.rd 1 S5 rfl) (by omega);refine vv (v:= .pointer (some ⟨b10,o11+k*5,none⟩)) (aJ rfl rfl rfl (cB k Tryz.underlying22 WY (by omega) (by omega))) ?_;refine vv (aj rfl rfl (aA (cs:=Gr.cells Dh) Tryz.underlying84 rfl WY rfl (Rd.uW (St.rd 1 S5 rfl) (λ_ _ h=>aX (enc:=Gr.cells) (sz:=5) (λ_=>rfl) apu h)))) ?_;refine zQ ?_;refine cab azZ S5 (adX (hg _ (List.mem_of_getElem? apu)) cr _) ?_;intro MB iH;refine fJ iH aiq ?_;intro b17 DK jU;refine sa 0 jU kP ?_;intro Ou lH;refine zN 5 ?_;refine Oo lH ?_;intro UF Mw jS;refine dw (news:=[iV ((gX Dh cr).kd),iV ((gX Dh cr).nd),iV ((gX Dh cr).qu),iV ((gX Dh cr).at_),iV ((gX Dh cr).kp),iV ((gX Dh cr).ek),iV ((gX Dh cr).ep),iV ((gX Dh cr).ei),iV ((gX Dh cr).eb),iV ((gX Dh cr).eh),iV ((gX Dh cr).en)]) (xs':=(bG gs (k+1) cr).flatMap Ac.cells) 2 jS (wn rfl) rfl rfl rfl rfl rfl rfl (St.lM (xs:=[iV ((gX Dh cr).kd),iV ((gX Dh cr).nd),iV ((gX Dh cr).qu),iV ((gX Dh cr).at_),iV ((gX Dh cr).kp),iV ((gX Dh cr).ek),iV ((gX Dh cr).ep),iV ((gX Dh cr).ei),iV ((gX Dh cr).eb),iV ((gX Dh cr).eh),iV ((gX Dh cr).en)]) 0 jS rfl rfl rfl) Tryz.underlying23 Ae rfl (by decide) (bX rfl) (by simp only [maxLen];omega) (by omega) (iJ (enc:=Ac.cells) (WJ apu).symm rfl) ?_;intro A25 c26 P7 hc29 aBY uy;refine zN 6 ?_;refine vv (v:=iV ((k+1:Nat):Int)) gu ?_;refine zN 2 ?_;have ni:=uy.aU [1,0];refine aM (k+1,A25,c26) ?_ ⟨rfl,rfl,rfl,rfl,rfl,rfl,trivial⟩ (by first | omega | (dsimp only;omega));exact ⟨(by dsimp only;omega),(by dsimp only;omega),ni⟩
  refine zN 18 ?_;have qC:=S5.aU [1];rw [show bG gs m cr=bG gs k cr from (MR (by omega) (by omega) (by omega)).symm,MS (by omega)];exact ⟨Ab,cb,rfl,qC⟩
 refine zN 22 ?_;have oG:=S5.aU [1];rw [show bG gs m cr=bG gs k cr from (MR (by omega) (by omega) (by omega)).symm,MS (by omega)];exact ⟨Ab,cb,rfl,oG⟩
theorem ZN {l:List Ac} {A:Option Addr} {c r:Nat} (hr:r<=100000) (hl:l.length<=100000) (w:World) (h:Rd w w.heap.size 11 A l.length (l.flatMap Ac.cells)):
    Calls Tryz.prog 13 #[.slice A l.length c,iV ((r:Nat):Int)] w (λe w'=> ∃ A' c',e= .returned (.slice A' ((jv l r).length) c')/\St w.heap.size w w' [.own 69 11 (.slice A' ((jv l r).length) c') ((jv l r).length) ((jv l r).flatMap Ac.cells)]):=by
 have S:=(St.start w).bU h;refine gq 39 Tryz.func13 ?_;refine cw [0,1] ?_;refine zN 6 ?_;have S1:=S.nil 69 11;refine zN 2 ?_;refine dw (news:=(l).flatMap Ac.cells) (xs':=(l).flatMap Ac.cells) 0 S1 (wn rfl) rfl rfl rfl rfl rfl rfl (St.rd 1 S1 rfl) Tryz.underlying23 Ae rfl (by decide) (Vp _) (by simp only [maxLen];omega) (by omega) (by simp) ?_;intro A2 c3 w4 hc6 hm7 S5;refine zN 10 ?_;refine cZ (X:=Nat×Nat×(Option Addr)×Nat) (λxv=>[(1,iV ((r:Nat):Int)),(4,.slice none 0 0),(5,.slice xv.2.2.1 xv.2.1 xv.2.2.2),(6,iV ((xv.1:Nat):Int))]) (λxv wr=>(xv.1<=5)/\(xv.2.1=l.length+xv.1)/\St w.heap.size w wr [.own 69 11 (.slice xv.2.2.1 xv.2.1 xv.2.2.2) xv.2.1 ((l++starts xv.1).flatMap Ac.cells),.rd 11 A l.length ((l).flatMap Ac.cells)]) (λxv=>5-xv.1) (0,0+l.length,A2,c3) ?_ ?_ ?_
 ·exact ⟨Nat.zero_le _,by dsimp only;omega,by dsimp only;rw [show l++starts 0=l from List.append_nil l];exact S5⟩
 ·exact ⟨rfl,rfl,rfl,rfl,trivial⟩
 rintro ⟨k,nb,Ab,cb⟩ w8 ⟨mK,Ni,S9⟩
 try dsimp only at mK Ni S9
 refine bq (l':=[(1,iV ((r:Nat):Int)),(4,.slice none 0 0),(5,.slice Ab nb cb),(6,iV ((k:Nat):Int))]) ⟨rfl,rfl,rfl,rfl,trivial⟩ (aH (aH (aC (vm ?_))));by_cases h12:((k:Nat):Int)<5
 ·refine zN 11 ?_;refine vv (v:= .agg #[iV 9,iV ((k:Nat):Int),iV 0,iV 0,iV 0,iV 0,iV 0,iV 0,iV 0,iV 0,iV 0]) gF ?_;refine Oo S9 ?_;intro b13 MB iH;refine dw (news:=[iV 9,iV ((k:Nat):Int),iV 0,iV 0,iV 0,iV 0,iV 0,iV 0,iV 0,iV 0,iV 0]) (xs':=(l++starts (k+1)).flatMap Ac.cells) 1 iH (wn rfl) rfl rfl rfl rfl rfl rfl (St.lM (xs:=[iV 9,iV ((k:Nat):Int),iV 0,iV 0,iV 0,iV 0,iV 0,iV 0,iV 0,iV 0,iV 0]) 0 iH rfl rfl rfl) Tryz.underlying23 Ae rfl (by decide) (bX rfl) (by simp only [maxLen];omega) (by omega) (iJ (enc:=Ac.cells) (by rw [WK,List.append_assoc]) rfl) ?_;intro A16 c17 DK aoC aoD jU;refine zN 6 ?_;refine vv (v:=iV ((k+1:Nat):Int)) gu ?_;refine zN 2 ?_;have iY:=jU.aU [0];refine aM (k+1,nb+1,A16,c17) ?_ ⟨rfl,rfl,rfl,rfl,trivial⟩ (by first | omega | (dsimp only;omega));exact ⟨(by dsimp only;omega),(by dsimp only;omega),iY⟩
 refine zN 16 ?_;obtain rfl:k=5:=by omega
 refine cZ (X:=Nat×Nat×(Option Addr)×Nat) (λxv=>[(1,iV ((r:Nat):Int)),(4,.slice none 0 0),(5,.slice xv.2.2.1 xv.2.1 xv.2.2.2),(7,iV ((xv.1:Nat):Int))]) (λxv wr=>(xv.1<=r)/\(xv.2.1=l.length+5+6*xv.1)/\St w.heap.size w wr [.own 69 11 (.slice xv.2.2.1 xv.2.1 xv.2.2.2) xv.2.1 ((l++starts 5++wz xv.1).flatMap Ac.cells),.rd 11 A l.length ((l).flatMap Ac.cells)]) (λxv=>r-xv.1) (0,nb,Ab,cb) ?_ ?_ ?_
 ·exact ⟨Nat.zero_le _,by dsimp only;omega,by dsimp only;rw [show l++starts 5++wz 0=l++starts 5 from List.append_nil _];exact S9⟩
 ·exact ⟨rfl,rfl,rfl,rfl,trivial⟩
 rintro ⟨i,nb,Ab,cb⟩ Mw ⟨aE4,aE5,jS⟩
 try dsimp only at aE4 aE5 jS
 refine bq (l':=[(1,iV ((r:Nat):Int)),(4,.slice none 0 0),(5,.slice Ab nb cb),(7,iV ((i:Nat):Int))]) ⟨rfl,rfl,rfl,rfl,trivial⟩ (aH (aH (aC (vm ?_))));refine zQ ?_;by_cases h27:((i:Nat):Int)< ((r:Nat):Int)
 ·refine zN 15 ?_;refine cZ (X:=Nat×Nat×(Option Addr)×Nat) (λxv=>[(1,iV ((r:Nat):Int)),(4,.slice none 0 0),(7,iV ((i:Nat):Int)),(5,.slice xv.2.2.1 xv.2.1 xv.2.2.2),(8,iV ((xv.1:Nat):Int))]) (λxv wr=>(xv.1<=5)/\(xv.2.1=l.length+5+6*i+xv.1)/\St w.heap.size w wr [.own 69 11 (.slice xv.2.2.1 xv.2.1 xv.2.2.2) xv.2.1 ((l++starts 5++wz i++steps xv.1).flatMap Ac.cells),.rd 11 A l.length ((l).flatMap Ac.cells)]) (λxv=>5-xv.1) (0,nb,Ab,cb) ?_ ?_ ?_
  ·exact ⟨Nat.zero_le _,by dsimp only;omega,by dsimp only;rw [show l++starts 5++wz i++steps 0=l++starts 5++wz i from List.append_nil _];exact jS⟩
  ·exact ⟨rfl,rfl,rfl,rfl,rfl,trivial⟩
  rintro ⟨j,nb,Ab,cb⟩ Xa ⟨aE6,Iu,qR⟩
  try dsimp only at aE6 Iu qR
  refine bq (l':=[(1,iV ((r:Nat):Int)),(4,.slice none 0 0),(7,iV ((i:Nat):Int)),(5,.slice Ab nb cb),(8,iV ((j:Nat):Int))]) ⟨rfl,rfl,rfl,rfl,rfl,trivial⟩ (aH (aH (aC (vm ?_))));by_cases h32:((j:Nat):Int)<5
  ·refine zN 11 ?_;refine vv (v:= .agg #[iV 3,iV ((j:Nat):Int),iV 0,iV 0,iV 0,iV 0,iV 0,iV 0,iV 0,iV 0,iV 0]) gF ?_;refine Oo qR ?_;intro b33 Xm pF;refine dw (news:=[iV 3,iV ((j:Nat):Int),iV 0,iV 0,iV 0,iV 0,iV 0,iV 0,iV 0,iV 0,iV 0]) (xs':=(l++starts 5++wz i++steps (j+1)).flatMap Ac.cells) 1 pF (wn rfl) rfl rfl rfl rfl rfl rfl (St.lM (xs:=[iV 3,iV ((j:Nat):Int),iV 0,iV 0,iV 0,iV 0,iV 0,iV 0,iV 0,iV 0,iV 0]) 0 pF rfl rfl rfl) Tryz.underlying23 Ae rfl (by decide) (bX rfl) (by simp only [maxLen];omega) (by omega) (iJ (enc:=Ac.cells) (by rw [ZM,List.append_assoc]) rfl) ?_;intro A36 c37 w38 aBZ aB0 Ai;refine zN 6 ?_;refine vv (v:=iV ((j+1:Nat):Int)) gu ?_;refine zN 2 ?_;have qV:=Ai.aU [0];refine aM (j+1,nb+1,A36,c37) ?_ ⟨rfl,rfl,rfl,rfl,rfl,trivial⟩ (by first | omega | (dsimp only;omega));exact ⟨(by dsimp only;omega),(by dsimp only;omega),qV⟩
  refine zN 9 ?_;obtain rfl:j=5:=by omega
  refine zN 2 ?_;refine vv (v:= .agg #[iV 7,iV 0,iV 0,iV 0,iV 0,iV 0,iV 0,iV 0,iV 0,iV 0,iV 0]) gF ?_;refine Oo qR ?_;intro b43 Sn ou;refine dw (news:=[iV 7,iV 0,iV 0,iV 0,iV 0,iV 0,iV 0,iV 0,iV 0,iV 0,iV 0]) (xs':=(l++starts 5++wz (i+1)).flatMap Ac.cells) 1 ou (wn rfl) rfl rfl rfl rfl rfl rfl (St.lM (xs:=[iV 7,iV 0,iV 0,iV 0,iV 0,iV 0,iV 0,iV 0,iV 0,iV 0,iV 0]) 0 ou rfl rfl rfl) Tryz.underlying23 Ae rfl (by decide) (bX rfl) (by simp only [maxLen];omega) (by omega) (iJ (enc:=Ac.cells) (x:=Ap 7 0) (by rw [Iw];simp only [List.append_assoc]) rfl) ?_;intro A46 c47 w48 aMw aMx uz;refine zN 6 ?_;refine vv (v:=iV ((i+1:Nat):Int)) gu ?_;refine zN 2 ?_;have kS:=uz.aU [0];refine aM (i+1,nb+1,A46,c47) ?_ ⟨rfl,rfl,rfl,rfl,trivial⟩ (by first | omega | (dsimp only;omega));exact ⟨(by dsimp only;omega),(by dsimp only;omega),kS⟩
 refine zN 17 ?_;have vS:=jS.aU [1];obtain rfl:i=r:=by omega
 rw [Vq,show l.length+5+6*i=nb by omega];exact ⟨Ab,cb,rfl,vS⟩
open Ad
theorem aa3 {α β:Type} {R:α->β->Prop} {r:β}: ∀ {l:List α} {m j:Nat} {u:α},dD R l (List.replicate m r)->l[j]? =some u->R u r
 | _::_,_+1,0,_,h,hj=>by cases hj;exact h.1
 | _::l,m+1,j+1,_,h,hj=>aa3 (l:=l) (m:=m) h.2 hj
 | [],_,_,_,_,hj=>by simp at hj
theorem wf_i64 {x:Int} (h:(Lit.int .i64 x).wf=true):MQ x:=by
 have h1:IntKind.i64.min= -9223372036854775808:=by decide
 have h2:IntKind.i64.max=9223372036854775807:=by decide
 unfold MQ;simp only [Lit.wf,h1,h2,Bool.and_eq_true,decide_eq_true_eq] at h;exact h
theorem amh {α:Type} [Ad α] {W:World} {v:Value} {b:Nat} (h:Fits W v (.sl b (List.replicate (size α) (.int .i64)))) {A:Option Addr} {n c:Nat} {l:List α} (hv:v= .slice A n c) (hr:Rd W W.heap.size (size α) A n (kC l)): ∀ x∈l,∀ y∈ints x,MQ y:=by
 intro x hx y hy;obtain ⟨k,hk⟩:=List.mem_iff_getElem?.1 hx;obtain ⟨j,hj⟩:=List.mem_iff_getElem?.1 hy;have hkn:k<n:=by rw [<-hr.Q6];exact (List.getElem?_eq_some_iff.1 hk).1
 obtain ⟨bb,off,a,rfl,_,ha,hc⟩:=hr.apH hkn;rw [hk] at ha
 cases ha;have h1:=hc j y hj;have hjs:j<size α:=by rw [<-len x];exact (List.getElem?_eq_some_iff.1 hj).1
 rcases h with h | ⟨ad,n',c',h,_,_,_,hcell⟩
 ·rw [hv] at h;cases h
 rw [hv] at h
 cases h;obtain ⟨cs,h2,_,h3⟩:=hcell k hkn;have hl:=h2.len;rw [List.length_replicate] at hl;have hu:cs[j]? =some (cs[j]'(by omega)):=List.getElem?_eq_getElem (by omega);have h4:=h3 j _ hu;rw [List.length_replicate,Go.WideShapes.add_plain,h1] at h4;obtain ⟨z,hz,hw⟩:=aa3 h2 hu;rw [hz] at h4
 cases h4;exact wf_i64 hw
instance:Ad Gr where
 size:=5
 ints x:=[x.kd,x.a,x.b,x.c,x.d]
 of l:=⟨l.getD 0 0,l.getD 1 0,l.getD 2 0,l.getD 3 0,l.getD 4 0⟩
 pos:=by omega
 len _:=rfl
 inv xs h:=by
  match xs,h with
  | [a,b,c,d,e],_=>rfl
theorem ah1:flat Tryz.prog 30 22=some [.sl 40 (List.replicate 5 (.int .i64))]:=by kernel_rfl
theorem rX {W:World} {v:Value} (h:zG Tryz.prog W v 22): ∃ A c,∃ l:List Gr,v= .slice A l.length c/\Rd W W.heap.size 5 A l.length (l.flatMap Gr.cells)/\ ∀ g∈l,g.ok:=by
 obtain ⟨⟨base,hk⟩,l,hl,ha⟩:=h;rw [ah1] at hl
 cases hl;obtain ⟨A,n,c,rfl⟩:=okWide_slice Tryz.underlying22 hk;obtain ⟨a,l1,e,h1,_⟩:=dD.p8 ha;simp [Value.cells] at e;obtain ⟨rfl,_⟩:=e;obtain ⟨A',n',c',l,e,hr,hn,hc,hb,h0⟩:=abg (α:=Gr) h1;have hw:=amh (α:=Gr) h1 e hr;simp only [Value.slice.injEq] at e;obtain ⟨rfl,rfl,rfl⟩:=e;have hlen:l.length=n:=Rd.Q6 (α:=Gr) hr;subst hlen;refine ⟨A,c,l,rfl,hr,λg hg=>?_⟩;have h:=hw g hg;exact ⟨h _ (by simp [ints]),h _ (by simp [ints]),h _ (by simp [ints]),h _ (by simp [ints]),h _ (by simp [ints])⟩
end
section
open ChangeShapes WideShapes RowKit
theorem tN {gs:List Gr} {A:Option Addr} {c m:Nat} {cr:Bool} {s:List Ac} (hs:s=bG gs m cr) (hm:m<=1000) (hg: ∀ g∈gs,g.ok) (w:World) (h:Rd w w.heap.size 5 A gs.length (gs.flatMap Gr.cells)):
  Calls Tryz.prog 11 #[.slice A gs.length c,.int .i64 ((m:Nat):Int),.bool cr] w (λe w'=> ∃ A' c',e= .returned (.slice A' s.length c')/\St w.heap.size w w' [.own 69 11 (.slice A' s.length c') s.length (s.flatMap Ac.cells)]):=by
 subst hs;exact GK hm hg w h
theorem GL {s F:List Ac} {A:Option Addr} {c r:Nat} (hF:F=jv s r) (hr:r<=1000) (hl:s.length<=1000) (w:World) (h:Rd w w.heap.size 11 A s.length (s.flatMap Ac.cells)):
  Calls Tryz.prog 13 #[.slice A s.length c,.int .i64 ((r:Nat):Int)] w (λe w'=> ∃ A' c',e= .returned (.slice A' F.length c')/\St w.heap.size w w' [.own 69 11 (.slice A' F.length c') F.length (F.flatMap Ac.cells)]):=by
 subst hF;exact ZN (by omega) (by omega) w h
theorem Ol {B:Nat} {w0 w:World} {fs:List Fact} {A:Option Addr} {c:Nat} {F:List Ac} (h0: ∀ a∈F,bV a=0) (hl:F.length<=1000) (S:St B w0 w fs) (hu:Uk B w0) (xZ:Ro fs 11 A F.length (F.flatMap Ac.cells)):
  Calls Tryz.prog 12 #[.slice A F.length c] w (RG B w0 fs F):=QT (Vo h0 hl) S hu xZ (by unfold reachBytes;omega)
theorem Tk {w:World} {sA:Option Addr} {sn sc q:Nat} {l sv:List dI} {fl:Nat} {U:Nat->Bool} {d:Dir} {BA tA:Option Addr} {bc tn tc calls:Nat} (hv:oN q l=sv) (h:Rd w w.heap.size 14 sA sn (l.flatMap dI.cells)) (hn:sn<=1000000000):
  Calls Tryz.prog 15 #[.agg (nR fl U d (.slice BA 5 bc) (.slice sA sn sc) (.slice tA tn tc) calls),.int .i64 ((q:Nat):Int)] w (λe w'=> ∃ A' c',e= .returned (.slice A' sv.length c')/\St w.heap.size w w' [.own 60 14 (.slice A' sv.length c') sv.length (sv.flatMap dI.cells)]):=by
 subst hv;exact Ns (x:=⟨fl,U,d,BA,bc,sA,sn,sc,tA,tn,tc,calls⟩) h hn
section
variable {Q y:Qd} {l:List dI} {k i:Nat} {s:dI} {e:Ev}
theorem Kq (h:rp Q (l.drop k)=some y) (hs:l[k]? =some s):(gU Q s.op).2.2.2=0/\(gU Q s.op).2.1=s.ans/\rp (gU Q s.op).1 (l.drop (k+1))=some y:=by
 obtain ⟨hk,hm⟩:=List.getElem?_eq_some_iff.1 hs;rw [List.drop_eq_getElem_cons hk,hm,rp] at h
 split at h
 ·rename_i hc;exact ⟨hc.1,hc.2,h⟩
 cases h
theorem Kr (h:(gU Q e).2.2.2=0):Q.fault=0/\bE e=0/\gU Q e=((stepM Q e).1,(stepM Q e).2.1,(stepM Q e).2.2,0):=by
 by_cases h0:Q.fault=0
 ·by_cases h1:bE e=0
  ·exact ⟨h0,h1,BD h0 h1⟩
  rw [Sz h0 h1] at h;exact absurd h h1
 rw [Ob h0] at h;exact absurd h h0
end
section
variable {m m':Cl} {n q:Nat} {g g':Gh} {V:Nat->bJ} {P:Nat->Option fP} {U:Nat->Bool} {Lt:iD->Prop} {pl:Pl} {sh:Nat->Int×Int} {sv:List dI}
def AL (n q:Nat) (ep:Int) (evs:List Ev) (an:List iT) (i:Nat):dI:=⟨n,q,ep,evs.getD i aV,an.getD i eH,-1⟩
theorem zU {evs:List Ev} {an:List iT}: ∀ (il:List Nat) (m:Cl),m.recovered n q evs an il=
  { m with aP:=m.aP++il.map (AL n q ((m.ah n).bs q).ep evs an),shown:=if il=[] then m.shown else iB m.shown n q (((m.ah n).bs q).ep,(((m.ah n).bs q).evs.length:Int)) }
 | [],m=>by simp [Cl.recovered]
 | i::r,m=>by
  rw [Cl.recovered,zU r];have e: ∀ (s:Nat->Nat->Int×Int) (p:Int×Int),iB (iB s n q p) n q p=iB s n q p:=λs p=>by
   funext a b
   unfold iB
   split<;>rfl
  unfold Cl.tell;dsimp only;rw [if_neg (by simp: ¬ i::r=[]),List.map_cons,List.append_assoc]
  congr 1
  split
  ·rfl
  exact e _ _
theorem ami {ep:Int} {evs:List Ev} {an:List iT} {q':Nat} (il:List Nat):(il.map (AL n q' ep evs an)).filter (λs=>decide (s.q=q))=if q'=q then il.map (AL n q' ep evs an) else []:=by
 by_cases e:q'=q
 ·rw [if_pos e];refine List.filter_eq_self.2 λs hs=>?_;obtain ⟨i,_,rfl⟩:=List.mem_map.1 hs;simp [AL,e]
 rw [if_neg e];refine List.filter_eq_nil_iff.2 λs hs=>?_;obtain ⟨i,_,rfl⟩:=List.mem_map.1 hs;simp [AL,e]
theorem Vr {G:List Ev} {ep:Int} (hg:good G): ∀ (d F:Nat) {sv:List dI},F+d=G.length->rp bT sv=some (aK (G.take F)).1->rp bT (sv++((List.range G.length).drop F).map (AL n q ep G (aK G).2.1))=some (aK G).1
 | 0,F,sv,hF,h=>by
  rw [Nat.add_zero] at hF;rw [List.drop_of_length_le (by rw [List.length_range];omega),List.map_nil,List.append_nil,h,hF,List.take_length]
 | d+1,F,sv,hF,h=>by
  have hlt:F<G.length:=by omega
  have hlr:F< (List.range G.length).length:=by rw [List.length_range];exact hlt
  rw [List.drop_eq_getElem_cons hlr,List.getElem_range,List.map_cons];rw [show sv++AL n q ep G (aK G).2.1 F::((List.range G.length).drop (F+1)).map (AL n q ep G (aK G).2.1)=(sv++[AL n q ep G (aK G).2.1 F])++((List.range G.length).drop (F+1)).map (AL n q ep G (aK G).2.1) by rw [List.append_assoc];rfl];refine Vr hg d (F+1) (by omega) ?_;have hs:=pQ hlt;have hg2:good (G.take F++[G[F]]):=by rw [<-hs];exact rV hg
  obtain ⟨s1,s2,s3⟩:=good_step hg2;have ha:=UY _ rfl hg F hlt;have e1:(AL n q ep G (aK G).2.1 F).op=G[F]:=by
   show G.getD F aV=_
   rw [List.getD_eq_getElem?_getD,List.getElem?_eq_getElem hlt];rfl
  have e2:(AL n q ep G (aK G).2.1 F).ans=(gU (aK (G.take F)).1 G[F]).2.1:=by
   show (aK G).2.1.getD F eH=_
   rw [List.getD_eq_getElem?_getD,ha];rfl
  rw [ED h (by rw [e1];exact s1) (by rw [e1,e2]),e1,hs,s3]
def QD (m:Cl) (q:Nat) (g:Gh) (n:Nat):Prop:=Inv g (vw m q) (Am m q) (upd (EL m) n false) (OB m q) (m.off.at q) (Ao m q) (yS m q)
noncomputable def wV (n:Nat) (bs:Nat->bJ) (m:Cl) (q:Nat):Cl:=if (bs q).role≠1 then m else ((m.recover n q).aY n q (fB (bs q)).1).tell n q aS eH (-1)
theorem Ei {bs:Nat->bJ}: ∀ (ql:List Nat) (m:Cl),Cl.woken n bs ql m=ql.foldl (wV n bs) m
 | [],m=>rfl
 | q::r,m=>by
  rw [Cl.woken,List.foldl_cons];unfold wV
  split
  ·exact Ei r m
  exact Ei r _
structure W1 (m m':Cl) (n q':Nat):Prop where
 ah: ∃ b,m'.ah=upd m.ah n { m.ah n with bs:=upd (m.ah n).bs q' b }
 fly:m'.fly=m.fly
 off:m'.off=m.off
 sh: ∀ q,q'≠q->Ao m' q=Ao m q
 sv: ∀ q,q'≠q->yS m' q=yS m q
theorem MU (m:Cl) (n q':Nat): ∃ ss p,m.recover n q'={ m with aP:=m.aP++ss,shown:=p }/\(∀ s∈ss,s.q=q')/\ ∀ a b,b≠q'->p a b=m.shown a b:=by
 unfold Cl.recover
 split
 ·exact ⟨_,_,rfl,λs hs=>by rw [List.mem_singleton] at hs;subst hs;rfl,λa b hb=>by unfold iB;rw [if_neg (λe=>hb e.2)]⟩
 rw [zU];refine ⟨_,_,rfl,λs hs=>?_,λa b hb=>?_⟩
 ·obtain ⟨i,_,rfl⟩:=List.mem_map.1 hs;rfl
 split
 ·rfl
 unfold iB;rw [if_neg (λe=>hb e.2)]
theorem adY {ss:List dI} {q':Nat} (h: ∀ s∈ss,s.q=q') (hq:q'≠q):ss.filter (λs=>decide (s.q=q))=[]:=List.filter_eq_nil_iff.2 λs hs=>by rw [h s hs];simp [hq]
theorem FV {bs:Nat->bJ} (m:Cl) (n q':Nat):W1 m (wV n bs m q') n q':=by
 unfold wV
 split
 ·exact ⟨⟨(m.ah n).bs q',by rw [aL (f:=(m.ah n).bs) rfl];exact Bg⟩,rfl,rfl,λ_ _=>rfl,λ_ _=>rfl⟩
 obtain ⟨ss,p,e,h1,h2⟩:=MU m n q';rw [e];refine ⟨⟨(fB (bs q')).1,rfl⟩,rfl,rfl,λq hq=>?_,λq hq=>?_⟩
 ·show (λj=>iB p n q' _ j q)=_
  rw [Qx hq]
  funext j
  exact h2 j q (λe=>hq e.symm)
 show ((m.aP++ss)++_).filter _=_
 rw [uL,if_neg hq,List.append_nil,List.filter_append,adY h1 hq,List.append_nil];rfl
theorem QD.far (I:QD m q g n) (hn:n<5) (hu:(m.ah n).up=true) {q':Nat} (hq:q'≠q) (W:W1 m m' n q'):QD m' q g n/\vw m' q=vw m q/\(m'.ah n).up=true/\(m'.ah n).bs q=(m.ah n).bs q/\(m'.ah n).pend=(m.ah n).pend:=by
 obtain ⟨b,hb⟩:=W.ah;have gN:({ m.ah n with bs:=upd (m.ah n).bs q' b }:Nd).view q=(m.ah n).view q:=by
  rw [gD (X:={ m.ah n with bs:=upd (m.ah n).bs q' b }) hu,gD hu];exact upd_ne (λe=>hq e.symm)
 have hvw:=oF hb gN;have hun:EL m'=EL m:=mD hb rfl;refine ⟨?_,hvw,by rw [hb,upd_same];exact hu,by rw [hb,upd_same];exact upd_ne (λe=>hq e.symm),by rw [hb,upd_same]⟩;unfold QD;rw [hvw,tL hb rfl,hun,W.off,W.sh q hq,W.sv q hq];exact I.zo λx hx=>by
  obtain ⟨x1,x2⟩:=hx
  rcases x2 with x2 | ⟨j,hj,x2⟩
  ·rw [W.fly] at x2;exact .inl ⟨x1,.inl x2⟩
  rw [hb] at x2;by_cases e:j=n
  ·subst e;rw [upd_same] at x2;exact .inl ⟨x1,.inr ⟨j,hj,x2⟩⟩
  rw [upd_ne e] at x2;exact .inl ⟨x1,.inr ⟨j,hj,x2⟩⟩
theorem QD.aE7 (I:QD m q g n) (hn:n<5) (hu:(m.ah n).up=true) (hr:((m.ah n).bs q).role=1):QD (m.recover n q) q g.all n/\n=g.o/\(m.recover n q).ah=m.ah:=by
 have hV:=Dv (q:=q) hu;have ho:n=g.o:=I.oEp hn (by rw [hV];exact .inl hr);have dK:((m.ah n).bs q).ep=g.m:=by rw [<-hV,ho];exact I.Df
 have hev:((m.ah n).bs q).evs=g.G:=by rw [<-hV,ho];exact I.Oz
 refine ⟨?_,ho,?_⟩
 ·unfold Cl.recover;by_cases c:(m.shown n q).1≠((m.ah n).bs q).ep
  ·rw [if_pos c];have ht: ¬ g.t=g.m:=λe=>by
    rcases I.Jo with ⟨_,h,_⟩ | ⟨h,_⟩
    ·apply c;have h':m.shown g.o q=_:=h;rw [dK,ho,h']
    omega
   have I2:=I.aaT ht (s:=⟨n,q,g.m,aS,eH,-1⟩) rfl rfl rfl ho;unfold QD;have e1:Ao (m.tell n q aS eH (-1)) q=upd (Ao m q) g.o ((g.m:Int),(g.G.length:Int)):=by
    show (λj=>iB m.shown n q _ j q)=_
    rw [Gw,dK,hev,ho];rfl
   have e2:yS (m.tell n q aS eH (-1)) q=yS m q++[⟨n,q,g.m,aS,eH,-1⟩]:=by
    show (m.aP++_).filter _=_
    rw [uL,if_pos rfl,dK];rfl
   rw [e1,e2];exact I2
  rw [if_neg c,zU,dK,hev];have c':(m.shown n q).1=((m.ah n).bs q).ep:=Classical.not_not.1 c
  rcases I.Jo with ⟨h1,h2,h3⟩ | ⟨_,h2,_⟩
  ·have hsh:m.shown n q=((g.m:Int),(g.F:Int)):=by rw [ho];exact h2
   rw [hsh];dsimp only;rw [Int.toNat_natCast];have hrp:=Vr (n:=n) (q:=q) (ep:=(g.m:Int)) I.gd (g.G.length-g.F) g.F (by omega) I.rps;have I2:=I.told h1 hrp λs hs=>by
    obtain ⟨i,_,rfl⟩:=List.mem_map.1 hs;exact ⟨rfl,ho⟩
   unfold QD;have e2:yS { m with aP:=m.aP++((List.range g.G.length).drop g.F).map (AL n q (g.m:Int) g.G (aK g.G).2.1),shown:=if (List.range g.G.length).drop g.F=[] then m.shown else iB m.shown n q ((g.m:Int),(g.G.length:Int)) } q=yS m q++((List.range g.G.length).drop g.F).map (AL n q (g.m:Int) g.G (aK g.G).2.1):=by
    show (m.aP++_).filter _=_
    rw [List.filter_append,ami,if_pos rfl];rfl
   have e1:Ao { m with aP:=m.aP++((List.range g.G.length).drop g.F).map (AL n q (g.m:Int) g.G (aK g.G).2.1),shown:=if (List.range g.G.length).drop g.F=[] then m.shown else iB m.shown n q ((g.m:Int),(g.G.length:Int)) } q=upd (Ao m q) g.o ((g.m:Int),(g.G.length:Int)):=by
    unfold Ao;dsimp only
    split
    ·rename_i hnil
     have:=congrArg List.length hnil;rw [List.length_drop,List.length_range,List.length_nil] at this;refine (aL ?_).symm;rw [<-ho,hsh];have:g.F=g.G.length:=by omega
     rw [this]
    rw [Gw,ho]
   rw [e1,e2];exact I2
  exfalso
  have h2':(m.shown g.o q).1<g.m:=h2;rw [<-ho,c',dK] at h2';omega
 obtain ⟨ss,p,e,_,_⟩:=MU m n q;rw [e]
theorem QD.near {bs:Nat->bJ} (I:QD m q g n) (hn:n<5) (hu:(m.ah n).up=true) (hp:(m.ah n).pend=none) (hb:(m.ah n).bs q=bs q) (hr:(bs q).role=1) (hw:fB (bs q)=(iF (bs q),0)) (hf:au (iF (bs q))=0) (hfb:au (bs q)=0):
  ∃ g',QD (wV n bs m q) q g' n/\mX g g'/\g'.m=g.m/\g'.o=n/\n=g.o/\g'.t=g'.m/\g'.F=g'.G.length:=by
 obtain ⟨I1,ho,zV⟩:=I.aE7 hn hu (by rw [hb];exact hr);have hV1:vw (m.recover n q) q n=bs q:=by
  unfold vw;rw [zV,gD hu];exact hb
 have avy:vw (m.recover n q) q g.o=bs q:=by rw [<-hV1];congr 1;exact ho.symm
 have dK:(bs q).ep=g.m:=by rw [<-avy];exact I1.Df
 have hev:(bs q).evs=g.G:=by rw [<-avy];exact I1.Oz
 have hgd:good (g.G++[aS]):=by have:=(eu hf).2;unfold iF at this;rw [hev] at this;exact this
 have hs:=fQ hfb;unfold bF at hs;have qX:(bs q).tg=0:=by omega
 have hpn:Am (m.recover n q) q g.all.o=none:=by
  show pq q ((m.recover n q).ah g.o).pend=none
  rw [zV,<-ho,hp];rfl
 have huf:upd (EL (m.recover n q)) n false g.all.o=false:=by show upd _ n false g.o=false;rw [<-ho];exact upd_same _ _ _
 have hVo:vw (m.recover n q) q g.all.o=bs q:=by show vw (m.recover n q) q g.o=_;rw [<-ho];exact hV1
 have I2:=Inv.append (e:=aS) (b:=iF (bs q)) I1 hpn huf (by rw [hVo];omega) rfl hgd (by rw [hVo];rfl) (by rw [hVo];exact hr.symm) (by rw [hVo];exact qX.symm) (by show (bs q).evs++[aS]=_;rw [hev];rfl);obtain ⟨s1,s2,s3⟩:=good_step hgd;have aE8:rp bT (yS (m.recover n q) q)=some (aK g.G).1:=by
  have:=I1.rps;rwa [show g.all.G.take g.all.F=g.G from List.take_length] at this
 have I3:=I2.told (sv2:=[⟨n,q,g.m,aS,eH,-1⟩]) rfl (by rw [ED aE8 s1 (afA s2)];show _=some (aK (g.G++[aS])).1;rw [s3]) λs hs=>by rw [List.mem_singleton] at hs;subst hs;exact ⟨rfl,ho⟩
 refine ⟨(g.all.app aS).all,?_,⟨Nat.le_refl _,λ_ _=>rfl,by show (g.G++[aS]).length<=_;simp⟩,rfl,ho.symm,ho,rfl,rfl⟩;unfold wV;rw [if_neg (λh=>h hr),hw];have eD:(((m.recover n q).aY n q (iF (bs q))).tell n q aS eH (-1)).ah=upd (m.recover n q).ah n (((m.recover n q).ah n).aY q (iF (bs q))):=rfl;have hur:((m.recover n q).ah n).up=true:=by rw [zV];exact hu
 have gN:(((m.recover n q).ah n).aY q (iF (bs q))).view q=iF (bs q):=by rw [gD (X:=((m.recover n q).ah n).aY q _) hur];exact upd_same _ _ _
 have e0:(((m.recover n q).aY n q (iF (bs q))).ah n).bs q=iF (bs q):=by
  show ((upd (m.recover n q).ah n _) n).bs q=_
  rw [upd_same];exact upd_same _ _ _
 unfold QD;have e1:Ao (((m.recover n q).aY n q (iF (bs q))).tell n q aS eH (-1)) q=upd (Ao (m.recover n q) q) g.o ((g.m:Int),((g.G++[aS]).length:Int)):=by
  show (λj=>iB (m.recover n q).shown n q _ j q)=_
  rw [Gw,e0]
  show upd _ n ((bs q).ep,((((bs q).evs++[aS]).length:Nat):Int))=_
  rw [dK,hev,ho];rfl
 have e2:yS (((m.recover n q).aY n q (iF (bs q))).tell n q aS eH (-1)) q=yS (m.recover n q) q++[⟨n,q,g.m,aS,eH,-1⟩]:=by
  show ((m.recover n q).aP++_).filter _=_
  rw [uL,if_pos rfl,e0]
  show _++[(⟨n,q,(bs q).ep,aS,eH,-1⟩:dI)]=_
  rw [dK];rfl
 have e3:vw (((m.recover n q).aY n q (iF (bs q))).tell n q aS eH (-1)) q=upd (vw (m.recover n q) q) g.all.o (iF (bs q)):=by
  rw [uT eD,gN]
  show upd _ n _=upd _ g.o _
  rw [<-ho]
 rw [e1,e2,e3,tL eD rfl,mD eD rfl];exact I3.zo λx hx=>by
  obtain ⟨x1,x2⟩:=hx
  rcases x2 with x2 | ⟨j,hj,x2⟩
  ·exact .inl ⟨x1,.inl x2⟩
  rw [eD] at x2;by_cases e:j=n
  ·subst e;rw [upd_same] at x2;exact .inl ⟨x1,.inr ⟨j,hj,x2⟩⟩
  rw [upd_ne e] at x2;exact .inl ⟨x1,.inr ⟨j,hj,x2⟩⟩
theorem Vs {bs:Nat->bJ} (hn:n<5): ∀ (ql:List Nat) {m:Cl},QD m q g n->(m.ah n).up=true->q ∉ ql->QD (ql.foldl (wV n bs) m) q g n/\vw (ql.foldl (wV n bs) m) q=vw m q
 | [],m,I,_,_=>⟨I,rfl⟩
 | q'::r,m,I,hu,hq=>by
  rw [List.mem_cons,not_or] at hq;obtain ⟨I1,e1,h1,_,_⟩:=I.far hn hu (λe=>hq.1 e.symm) (FV (bs:=bs) m n q');obtain ⟨I2,e2⟩:=Vs hn r I1 h1 hq.2;exact ⟨I2,e2.trans e1⟩
theorem QU {bs:Nat->bJ} (hn:n<5) (hr:(bs q).role=1) (hw:fB (bs q)=(iF (bs q),0)) (hf:au (iF (bs q))=0) (hfb:au (bs q)=0): ∀ (ql:List Nat) {m:Cl},QD m q g n->(m.ah n).up=true->(m.ah n).pend=none->(m.ah n).bs q=bs q->q∈ql->ql.Nodup->
  ∃ g',QD (ql.foldl (wV n bs) m) q g' n/\mX g g'/\g'.m=g.m/\g'.o=n/\n=g.o/\g'.t=g'.m/\g'.F=g'.G.length
 | [],m,_,_,_,_,hq,_=>by simp at hq
 | q'::r,m,I,hu,hp,hb,hq,hnd=>by
  obtain ⟨h1,h2⟩:=List.nodup_cons.1 hnd;rw [List.foldl_cons];by_cases e:q'=q
  ·subst e;obtain ⟨g',I1,N1,k1,k2,k3,k4,k5⟩:=I.near hn hu hp hb hr hw hf hfb;obtain ⟨b,hW⟩:=(FV (bs:=bs) m n q').ah;have hu1:((wV n bs m q').ah n).up=true:=by rw [hW,upd_same];exact hu
   obtain ⟨I2,_⟩:=Vs hn r I1 hu1 h1;exact ⟨g',I2,N1,k1,k2,k3,k4,k5⟩
  have hq':q∈r:=by
   rcases List.mem_cons.1 hq with h | h
   ·exact absurd h.symm e
   exact h
  obtain ⟨I1,e1,u1,b1,p1⟩:=I.far hn hu e (FV (bs:=bs) m n q');exact QU hn hr hw hf hfb r I1 u1 (p1.trans hp) (b1.trans hb) hq' h2
theorem LK {s:Int} {f:Nat->bJ}: ∀ (ql:List Nat) {d d':List UInt8},eT s f ql d=some d'->d'.length<=d.length+46*ql.length
 | [],d,d',h=>by cases h;simp
 | q::r,d,d',h=>by
  rw [eT] at h;rw [List.length_cons]
  split at h
  ·have:=LK r h;omega
  split at h
  ·cases h
  split at h
  ·cases h
  rename_i d2 hw
  obtain ⟨w1,_,_⟩:=tK hw;have h1:=LK r h;have h2:=FL [fU 2 q (f q).ep 0 aS];rw [w1,List.length_append] at h1;simp only [List.length_cons,List.length_nil] at h2;omega
theorem ad1 {T S D K:Nat} (I:QI m q g) (hB:fK m T S D K) (hn:n<5) (hq:q<4):(∃ g',QI (m.start n) q g'/\mX g g'/\Dw q g g' m (m.start n))/\ ∀ j,((m.start n).ah j).data.length<=(m.ah j).data.length+184:=by
 rcases Jq (hB.lJ n hn) with ⟨_,e⟩ | ⟨hu,rs,t,f,hd,e | ⟨ws,e1,e2,e3,W,e5,e6,e7⟩⟩
 ·rw [e];exact ⟨⟨g,I,.refl g,λ_ h=>h⟩,λ_=>Nat.le_add_right _ _⟩
 ·rw [e];exact ⟨⟨g,I,.refl g,λ_ h=>h⟩,λ_=>Nat.le_add_right _ _⟩
 have hin:q∈[0,1,2,3]:=by
  have h:q=0\/q=1\/q=2\/q=3:=by omega
  rcases h with rfl | rfl | rfl | rfl<;>decide
 have hvb:=hd.rd.2.2 q hq;have hVn:vw m q n=f q:=hd.view hu hq;obtain ⟨hfb,hr2⟩:=hd.mO q hq;obtain ⟨m1,hm1⟩: ∃ m1,m1=m.put n { (m.ah n).blank with up:=true,data:=bH (rs++ws),syn:=(bH (rs++ws)).length,bs:=bL (m.ah n).data (m.ah n).syn }:=⟨_,rfl⟩;have zV:m1.ah=upd m.ah n { (m.ah n).blank with up:=true,data:=bH (rs++ws),syn:=(bH (rs++ws)).length,bs:=bL (m.ah n).data (m.ah n).syn }:=by rw [hm1];rfl
 have asq:({ (m.ah n).blank with up:=true,data:=bH (rs++ws),syn:=(bH (rs++ws)).length,bs:=bL (m.ah n).data (m.ah n).syn }:Nd).view q=(m.ah n).view q:=by
  rw [gD rfl];unfold Nd.view;rw [if_neg (by rw [hu];simp)]
 have apv:=oF zV asq;have aE9:Am m1 q=Am m q:=tL zV (by rw [hd.qN];rfl);have aFa:upd (EL m1) n false=EL m:=by rw [Xu zV,uI];exact aL hu
 have I1:QD m1 q g n:=by
  unfold QD;rw [apv,aE9,aFa];have hoff:m1.off=m.off:=by rw [hm1];rfl
  have hsh:Ao m1 q=Ao m q:=by rw [hm1];rfl
  have hsv:yS m1 q=yS m q:=by rw [hm1];rfl
  rw [hoff,hsh,hsv];exact I.zo (xX zV (λx hx=>by cases hx) hn (by rw [hm1];rfl))
 have hu1:(m1.ah n).up=true:=by rw [zV,upd_same]
 have hp1:(m1.ah n).pend=none:=by rw [zV,upd_same];rfl
 have hb1:(m1.ah n).bs q=bL (m.ah n).data (m.ah n).syn q:=by rw [zV,upd_same]
 have eX:(m.start n).ah=upd m.ah n { (m.ah n).blank with up:=true,data:=bH (rs++ws),syn:=(bH (rs++ws)).length,bs:=λq=>if q∈[0,1,2,3]/\(bL (m.ah n).data (m.ah n).syn q).role=1 then iF (bL (m.ah n).data (m.ah n).syn q) else bL (m.ah n).data (m.ah n).syn q }:=by
  rw [W.ah,bQ];exact uI _ _ _ _
 have avz:EL (m.start n)=upd (upd (EL (m.start n)) n false) n true:=by
  rw [uI];refine (aL ?_).symm;unfold EL;rw [eX,upd_same]
 rw [<-hm1,Ei] at e1;refine ⟨?_,λj=>?_⟩
 ·by_cases hr:(bL (m.ah n).data (m.ah n).syn q).role=1
  ·have hf1:au (iF (bL (m.ah n).data (m.ah n).syn q))=0:=by rw [hvb] at hr⊢;exact e7 q hq hr
   have hw1:fB (bL (m.ah n).data (m.ah n).syn q)=(iF (bL (m.ah n).data (m.ah n).syn q),0):=by
    unfold fB;rw [if_neg (λh=>h (by rw [hvb];exact hfb)),if_neg (by omega),if_neg (λh=>h hf1)];rfl
   obtain ⟨g',I2,N2,k1,k2,k3,k4,k5⟩:=QU hn hr hw1 hf1 (by rw [hvb];exact hfb) [0,1,2,3] I1 hu1 hp1 hb1 hin (by decide);rw [<-e1] at I2;have I3:=Inv.up I2 n λ_=>⟨k4,k5⟩;refine ⟨g',?_,N2,λ_ h=>?_⟩
   ·unfold QI;rw [avz];exact I3
   rw [<-k3,hVn,<-hvb] at h;omega
  have ad2:QD (m.start n) q g n/\vw (m.start n) q=vw m1 q:=by
   rw [e1];have key: ∀ (ql:List Nat) {m':Cl},QD m' q g n->(m'.ah n).up=true->QD (ql.foldl (wV n (bL (m.ah n).data (m.ah n).syn)) m') q g n/\vw (ql.foldl (wV n (bL (m.ah n).data (m.ah n).syn)) m') q=vw m' q:=by
    intro ql
    induction ql with
    | nil=>intro m' I' _;exact ⟨I',rfl⟩
    | cons q' r ih=>
     intro m' I' hu';rw [List.foldl_cons];by_cases e:q'=q
     ·subst e;have:wV n (bL (m.ah n).data (m.ah n).syn) m' q'=m':=if_pos hr;rw [this];exact ih I' hu'
     obtain ⟨I3,v3,u3,_,_⟩:=I'.far hn hu' e (FV (bs:=bL (m.ah n).data (m.ah n).syn) m' n q');obtain ⟨I4,v4⟩:=ih I3 u3;exact ⟨I4,v4.trans v3⟩
   exact key _ I1 hu1
  have hst:n=g.o->g.t=g.m/\g.F=g.G.length:=λho=>by
   have h3:(vw (m.start n) q g.o).role=3:=by
    rw [ad2.2,apv,<-ho,hVn];have:=I.arl;rw [<-ho,hVn] at this;rw [hvb] at hr;omega
   have hF:=ad2.1.slF h3;refine ⟨?_,hF⟩
   rcases ad2.1.Jo with h | ⟨_,_,_,h,_⟩
   ·exact h.1
   omega
  have I3:=Inv.up ad2.1 n hst;refine ⟨g,?_,.refl g,λ_ h=>by rw [ad2.2,apv];exact h⟩;unfold QI;rw [avz];exact I3
 rw [eX];by_cases e:j=n
 ·subst e;rw [upd_same]
  show (bH (rs++ws)).length<=_
  have hww:=LK [0,1,2,3] e3;rw [hd.rd.1] at hww;dsimp only at hww;have:=congrArg List.length hd.data;rw [List.length_append] at this;simp only [List.length_cons,List.length_nil] at hww;omega
 rw [upd_ne e];exact Nat.le_add_right _ _
end
section
variable {m m' m2:Cl} {n q k:Nat} {g g' g2:Gh}
theorem ah2 {T S D K:Nat} (hB:fK m T S D K) (hn:n<5) {j:Nat} (hj:j≠n):(m.step n).ah j=m.ah j:=by
 cases hu:(m.ah n).up with
 | false=>rw [Cr hu]
 | true=>
  obtain ⟨rs,us,hU⟩:=(hB.lJ n hn).Ii hu
  cases hp:(m.ah n).pend with
  | some p=>
   obtain ⟨h1,h2,h3⟩:=hU.Xq p hp;obtain ⟨_,hf⟩:=pR hU.tape hU.mO h2 h3;obtain ⟨Y,y1,_⟩:=Xr rfl hu hp h3 hf h2;rw [y1,upd_ne hj]
  | none=>
   have R:=Vh hu ⟨us,hU⟩ λl hl=>FK (hB.lS n hn l hl);rw [vI hu hp]
   split
   ·show upd (m.more n).ah n _ j=_
    rw [upd_ne hj];exact R.yR j hj
   exact R.yR j hj
theorem QV (m:Cl) (l:iD) (j:Nat):((m.come l).ah j).data=(m.ah j).data:=by
 unfold Cl.come
 split
 ·rfl
 split
 ·split<;>rfl
 split
 ·show ((upd m.ah l.tg.toNat _) j).data=_
  by_cases e:j=l.tg.toNat
  ·rw [e,upd_same]
  rw [upd_ne e]
 rfl
theorem MV: ∀ (ls:List iD) (m:Cl) (j:Nat),((ls.foldl Cl.come m).ah j).data=(m.ah j).data
 | [],_,_=>rfl
 | l::ls,m,j=>(MV ls (m.come l) j).trans (QV m l j)
theorem ad3 (m:Cl) (at_:Nat) (c s:Bool) (j:Nat):((m.pick at_ c s).ah j).data=(m.ah j).data:=by
 unfold Cl.pick
 split
 ·rfl
 dsimp only
 split
 ·rw [QV]
  split<;>rfl
 split<;>rfl
structure Later (q:Nat) (g g':Gh) (m m':Cl):Prop where
 mle:g.m<=g'.m
 own: ∀ k,k<=g.m->g'.own k=g.own k
 iU:Dw q g g' m m'
theorem Later.refl:Later q g g m m:=⟨Nat.le_refl _,λ_ _=>rfl,λ_ h=>h⟩
theorem Later.trans (h:Later q g g' m m') (h':Later q g' g2 m' m2):Later q g g2 m m2:=by
 refine ⟨Nat.le_trans h.mle h'.mle,λk hk=>(h'.own k (Nat.le_trans hk h.mle)).trans (h.own k hk),λe h3=>?_⟩;have h1:=h.mle;have h2:=h'.mle;have e1:g'.m=g.m:=by omega
 have eo:g'.o=g.o:=by unfold Gh.o;rw [e1];exact h.own _ (Nat.le_refl _)
 have:=h'.iU (by omega) (by rw [eo];exact h.iU e1 h3);rwa [eo] at this
theorem mX.later (h:mX g g') (h':Dw q g g' m m'):Later q g g' m m':=⟨h.m,h.own,h'⟩
structure LW (m:Cl) (q:Nat) (g:Gh) (k:Nat):Prop where
 qi:QI m q g
 aiK:g.G.length<=k
 data: ∀ n,n<5->(m.ah n).data.length<=184*k
theorem amj {a:Ac} (h:LW m q g k) (hB:Bs m k) (ha:Ke a) (h1:a.kd≠1) (hq:q<4) (hk:k<=540): ∃ g',LW (m.act a) q g' (k+1)/\Later q g g' m (m.act a):=by
 obtain ⟨I,hG,hD⟩:=h;obtain ⟨a1,a2,a3,a4,a5,a6⟩:=ha;have hn:a.nd.toNat<5:=by omega
 have hqu:a.qu.toNat<4:=by omega
 have fin: ∀ {m':Cl} {g':Gh},QI m' q g'->mX g g'->Dw q g g' m m'->(∀ n,n<5->(m'.ah n).data.length<=(m.ah n).data.length+184)-> ∃ g',LW m' q g' (k+1)/\Later q g g' m m':=λ{m' g'} I' N s hd=>
  ⟨g',⟨I',by have:=N.aiK;omega,λn hn=>by have:=hd n hn;have:=hD n hn;omega⟩,N.later s⟩
 unfold Cl.act;rw [if_neg h1]
 split
 ·obtain ⟨I2,e2⟩:=ahv (l:=SK a.nd a.qu.toNat a.op m.calls) (c:=m.calls+1) I rfl;exact fin I2 (.refl g) (λ_ h=>by rw [e2];exact h) λn _=>Nat.le_add_right _ _
 split
 ·obtain ⟨⟨g',I2,N2,s2⟩,d2⟩:=aht I hB hn (by have:=hD _ hn;omega) (by omega);refine fin I2 N2 s2 λj hj=>?_;by_cases e:j=a.nd.toNat
  ·rw [e];exact d2
  rw [ah2 hB hn e];exact Nat.le_add_right _ _
 split
 ·obtain ⟨I2,e2⟩:=ahu (at_:=a.at_.toNat) (c:=decide (a.kd≠5)) (s:=decide (a.kd=6)) I hB.wM hq;exact fin I2 (.refl g) (λ_ h=>by rw [e2];exact h) λn _=>by rw [ad3];exact Nat.le_add_right _ _
 split
 ·obtain ⟨I2,e2⟩:=alZ I hB.wM hq;refine fin I2 (.refl g) (λ_ h=>by rw [e2];exact h) λn _=>?_;unfold Cl.all;rw [MV];exact Nat.le_add_right _ _
 split
 ·obtain ⟨⟨g',I2,N2,s2⟩,d2⟩:=ade (keep:=a.kp) I hB hn hq a5.1;exact fin I2 N2 s2 λj _=>Nat.le_add_right_of_le (d2 j)
 split
 ·obtain ⟨⟨g',I2,N2,s2⟩,d2⟩:=ad1 I hB hn hq;exact fin I2 N2 s2 λj _=>d2 j
 obtain ⟨I2,s2,d2⟩:=ahw (tg:=a.nd) I hB hqu hq;exact fin I2 (.refl g) (λ_ h=>s2 h) λj _=>by rw [d2 j];exact Nat.le_add_right _ _
theorem aa4 (hq:q<4): ∀ (l:List Ac) {m:Cl} {g:Gh} {k:Nat},LW m q g k->Bs m k->(∀ a∈l,Ke a/\a.kd≠1)->k+l.length<=540-> ∃ g',LW (m.run l) q g' (k+l.length)/\Bs (m.run l) (k+l.length)/\Later q g g' m (m.run l)
 | [],m,g,k,h,hB,_,_=>⟨g,h,hB,.refl⟩
 | a::l,m,g,k,h,hB,ha,hk=>by
  rw [List.length_cons] at hk;obtain ⟨a1,a2⟩:=ha a (by simp);obtain ⟨g1,h1,r1⟩:=amj h hB a1 a2 hq (by omega);obtain ⟨g2,h2,b2,r2⟩:=aa4 hq l h1 (KN hB a1 (by omega)) (λx hx=>ha x (by simp [hx])) (by omega);rw [List.length_cons,show k+(l.length+1)=k+1+l.length by omega];exact ⟨g2,h2,b2,r1.trans r2⟩
end
def ad4 (n q:Nat):Ac:=⟨1,n,q,0,0,0,0,0,0,0,0⟩
theorem anN {n q:Nat} (hn:n<5) (hq:q<4):Ke (ad4 n q):=⟨by show (1:Int)<=1/\(1:Int)<=10;omega,by show 0<=(n:Int)/\(n:Int)<=4;omega,by show 0<=(q:Int)/\(q:Int)<=3;omega,by show (0:Int)<=0/\(0:Int)<=1048576;omega,by show (0:Int)<=0/\(0:Int)<=100000;omega,λh=>absurd (show (1:Int)=2 from h) (by decide)⟩
theorem aa5 {m:Cl} {n q:Nat} {d:Dir} {x:List UInt8} (hu:(m.ah n).up=true) (hp:(m.ah n).pend=none) (hd:sW m.off q n=(d,0)) (hb:iZ ((m.ah n).bs q) 1=(⟨1,1,0,0,0,[]⟩,0)) (hw:eZ (m.ah n).data (m.ah n).syn [fU 1 q 1 0 aV]=some x):
  m.make n q={ m.put n { m.ah n with data:=x,syn:=x.length,bs:=upd (m.ah n).bs q ⟨1,1,0,0,0,[]⟩ } with off:=d,shown:=iB m.shown n q (1,0) }:=by
 obtain ⟨X,hX⟩: ∃ X,m.ah n=X:=⟨_,rfl⟩;rw [hX] at hu hp hb hw⊢;unfold Cl.make Nd.write;rw [hX,hd,hb,hw,if_neg (by rw [hu,hp];simp),if_neg (by simp)];rfl
def Dy (q:Nat):List UInt8:=bH [fU 1 q 1 0 aV]
def Dz (q:Nat):Nd:={ nd0 with data:=Dy q,syn:=(Dy q).length,bs:=upd (λ_=>bP) q ⟨1,1,0,0,0,[]⟩ }
def apw:Cl:={ iX with ah:=upd iX.ah 0 (Dz 0),off:=⟨⟨0,1⟩,nowhere,nowhere,nowhere⟩,shown:=iB iX.shown 0 0 (1,0) }
def CJ:Cl:={ iX with ah:=upd (upd iX.ah 0 (Dz 0)) 1 (Dz 1),off:=⟨⟨0,1⟩,⟨1,1⟩,nowhere,nowhere⟩,shown:=iB (iB iX.shown 0 0 (1,0)) 1 1 (1,0) }
theorem anO {q:Nat} (hq:q<4):eZ nd0.data nd0.syn [fU 1 q 1 0 aV]=some (Dy q):=by
 have:=Ed (rs:=[fU 1 q 1 0 aV]) (l:=[]) (s:=0) (λr hr=>by rw [List.mem_singleton] at hr;subst hr;exact yF (by omega) hq (by omega) (by omega) (by decide)) (by omega) (by simp) (by simp);rw [List.nil_append] at this;exact this
theorem dmk {d:Dir} {q n:Nat} (hd: ∀ k,k<4->yV (d.at k)) (hq:q<4) (hn:n<5) (ha:d.at q=nowhere):sW d q n=(d.set q ⟨n,1⟩,0):=by
 unfold sW;rw [Q7 (IV hd) (by omega)];dsimp only;rw [if_neg (by simp),if_neg (by omega),if_neg (by rw [Int.toNat_natCast];exact λh=>h ha),Int.toNat_natCast]
theorem afZ:iX.act (ad4 0 0)=apw:=by
 show iX.make 0 0=_
 rw [aa5 (d:=⟨⟨0,1⟩,nowhere,nowhere,nowhere⟩) (x:=Dy 0) rfl rfl (dmk (d:=⟨nowhere,nowhere,nowhere,nowhere⟩) (q:=0) (n:=0) (λk hk=>by
  have h:k=0\/k=1\/k=2\/k=3:=by omega
  rcases h with rfl | rfl | rfl | rfl<;>exact .inl ⟨rfl,rfl⟩) (by omega) (by omega) rfl) (Ru (q:=0) Ka rfl (by decide) (by omega)).1 (anO (by omega))]
 rfl
theorem af0:apw.act (ad4 1 1)=CJ:=by
 show apw.make 1 1=_
 rw [aa5 (d:=⟨⟨0,1⟩,⟨1,1⟩,nowhere,nowhere⟩) (x:=Dy 1) rfl rfl (dmk (d:=⟨⟨0,1⟩,nowhere,nowhere,nowhere⟩) (q:=1) (n:=1) (λk hk=>by
  have h:k=0\/k=1\/k=2\/k=3:=by omega
  rcases h with rfl | rfl | rfl | rfl<;>first | exact .inl ⟨rfl,rfl⟩ | exact .inr ⟨by decide,by decide,by decide,by decide⟩) (by omega) (by omega) rfl) (Ru (q:=1) Ka rfl (by decide) (by omega)).1 (anO (by omega))]
 rfl
def g0 (q:Nat):Gh:=⟨1,λ_=>q,λ_=>0,[],0,1⟩
theorem aye {q:Nat} (hq:q<2):LW CJ q (g0 q) 2:=by
 have hV: ∀ n,vw CJ q n=if n=q then ⟨1,1,0,0,0,[]⟩ else bP:=λn=>by
  have hup:(CJ.ah n).up=true:=by
   show (upd (upd iX.ah 0 (Dz 0)) 1 (Dz 1) n).up=true
   unfold upd
   split
   ·rfl
   split<;>rfl
  rw [Dv hup]
  show (upd (upd iX.ah 0 (Dz 0)) 1 (Dz 1) n).bs q=_
  have h:q=0\/q=1:=by omega
  rcases h with rfl | rfl
  ·by_cases e1:n=1
   ·subst e1;rfl
   by_cases e0:n=0
   ·subst e0;rfl
   rw [upd_ne e1,upd_ne e0,if_neg e0];rfl
  by_cases e1:n=1
  ·subst e1;rfl
  by_cases e0:n=0
  ·subst e0;rfl
  rw [upd_ne e1,upd_ne e0,if_neg e1];rfl
 have hP: ∀ n,Am CJ q n=none:=λn=>by
  unfold Am;have:(CJ.ah n).pend=none:=by
   show (upd (upd iX.ah 0 (Dz 0)) 1 (Dz 1) n).pend=none
   unfold upd
   split
   ·rfl
   split<;>rfl
  rw [this];rfl
 have hI: ∀ n,(CJ.ah n).inbox=[]:=λn=>by
  show (upd (upd iX.ah 0 (Dz 0)) 1 (Dz 1) n).inbox=[]
  unfold upd
  split
  ·rfl
  split<;>rfl
 have hL: ∀ l,¬ OB CJ q l:=λl h=>by
  rcases h.2 with h | ⟨j,_,h⟩
  ·cases h
  rw [hI j] at h;cases h
 have hoff:CJ.off.at q=⟨q,1⟩:=by
  have h:q=0\/q=1:=by omega
  rcases h with rfl | rfl<;>rfl
 have hsh: ∀ n,Ao CJ q n=if n=q then (1,0) else (0,0):=λn=>by
  show iB (iB iX.shown 0 0 (1,0)) 1 1 (1,0) n q=_
  have h:q=0\/q=1:=by omega
  rcases h with rfl | rfl
  ·unfold iB;rw [if_neg (by omega)];by_cases e:n=0
   ·rw [if_pos ⟨e,rfl⟩,if_pos e]
   rw [if_neg (λh=>e h.1),if_neg e];rfl
  unfold iB;by_cases e:n=1
  ·rw [if_pos ⟨e,rfl⟩,if_pos e]
  rw [if_neg (λh=>e h.1),if_neg e,if_neg (by omega)];rfl
 have ho:(g0 q).o=q:=rfl;have hVo:vw CJ q (g0 q).o=⟨1,1,0,0,0,[]⟩:=by rw [hV,ho,if_pos rfl]
 have hm:(g0 q).m=1:=rfl;refine ⟨⟨Nat.le_refl _,λ_ _ _=>by show q<5;omega,λk h1 h2=>by rw [hm] at h2;omega,⟨1,hoff,Nat.le_refl _,.inl rfl⟩,by rw [hVo];rfl,by rw [hVo];rfl,by rw [hVo];exact .inl rfl,λh=>by rw [hVo] at h;exact absurd rfl h,xU,λn hn hne=>?_,λk h1 h2=>?_,λk h1 h2=>by rw [hm] at h2;omega,λl hl=>absurd hl (hL l),λn _ p hp=>(by rw [hP] at hp;cases hp),.inl ⟨rfl,?_,Nat.zero_le _⟩,λ_=>rfl,λ_=>rfl,λn _ hne=>?_,?_,⟨λs hs=>(by cases hs),λi a b ha=>(by cases ha),λs hs=>(by cases hs),λ_=>rfl⟩⟩,Nat.zero_le _,λn hn=>?_⟩
 ·rw [ho] at hne;rw [hV,if_neg hne];exact .inl ⟨rfl,by show (0:Int)<=0;omega,by show (0:Int)<1;omega⟩
 ·rw [hm] at h2;have:k=1:=by omega
  subst this
  show (1:Int)<=(vw CJ q q).ep
  rw [hV,if_pos rfl]
  decide
 ·rw [hsh,ho,if_pos rfl];rfl
 ·rw [ho] at hne;rw [hsh,if_neg hne]
  show (0:Int)<1
  omega
 ·show rp bT []=some (aK (List.take 0 [])).1
  rw [List.take_nil,BH (l:=[]) (by simp) (show gG bT [] []=some (bT,[]) from rfl)];rfl
 have h1: ∀ q,(Dy q).length<=46:=λq=>by have:=FL [fU 1 q 1 0 aV];simpa [Dy] using this
 show (upd (upd iX.ah 0 (Dz 0)) 1 (Dz 1) n).data.length<=_
 unfold upd
 split
 ·have:=h1 1;show (Dy 1).length<=_;omega
 split
 ·have:=h1 0;show (Dy 0).length<=_;omega
 show 0<=_;omega
theorem ayf:Bs CJ 2:=by
 rw [<-af0,<-afZ];exact KN (KN aiJ (anN (by omega) (by omega)) (by omega)) (anN (by omega) (by omega)) (by omega)
theorem CO {n q k p i b he hn:Int} (h1:0<=n/\n<3) (h2:0<=q/\q<2) (hk:(k=1/\0<=p/\p<2/\0<=i/\i<24/\0<=b/\b<1000/\he=0/\hn=0)\/(k=2/\p=0/\i=0/\b=0/\he=0/\hn=0)\/(k=3/\p=0/\i=0/\b=0/\0<=he/\he<3/\0<=hn/\hn<6)):bV ⟨2,n,q,0,0,k,p,i,b,he,hn⟩=0:=by
 rcases hk with ⟨rfl,h3,h4,h5,h6,h7,h8,rfl,rfl⟩ | ⟨rfl,rfl,rfl,rfl,rfl,rfl⟩ | ⟨rfl,rfl,rfl,rfl,h3,h4,h5,h6⟩
 all_goals
  simp [bV,cu,PY,Ac.get,Ac.ints,fin,zO,zeros];omega
theorem amk {k a b c:Int} (n q:Int) (h1:0<=n/\n<3) (h2:0<=q/\q<2):bV ⟨2,n,q,0,0,if (nC k a b c).kind=4 then 2 else (nC k a b c).kind,(nC k a b c).producer,(nC k a b c).id,(nC k a b c).body,(nC k a b c).aG,(nC k a b c).hno⟩=0:=by
 have p1:=mY (n:=a) (m:=2) (by decide);have p2:=mY (n:=b) (m:=24) (by decide);have p3:=mY (n:=c) (m:=1000) (by decide);have p4:=mY (n:=a) (m:=3) (by decide);have p5:=mY (n:=b) (m:=6) (by decide);unfold nC
 split
 ·exact CO h1 h2 (.inl ⟨rfl,p1.1,p1.2,p2.1,p2.2,p3.1,p3.2,rfl,rfl⟩)
 split
 ·exact CO h1 h2 (.inr (.inl ⟨rfl,rfl,rfl,rfl,rfl,rfl⟩))
 split
 ·exact CO h1 h2 (.inr (.inr ⟨rfl,rfl,rfl,rfl,p4.1,p4.2,p5.1,p5.2⟩))
 exact CO h1 h2 (.inr (.inl ⟨rfl,rfl,rfl,rfl,rfl,rfl⟩))
theorem XD (g:Gr) (cr:Bool):bV (gX g cr)=0/\(gX g cr).kd≠1:=by
 have p1:=mY (n:=g.a) (m:=3) (by decide);have p2:=mY (n:=g.b) (m:=2) (by decide);have p3:=mY (n:=g.c) (m:=20) (by decide);have p4:=mY (n:=g.c) (m:=120) (by decide);unfold gX
 split
 ·exact ⟨amk _ _ p1 p2,by unfold YC;dsimp only;omega⟩
 repeat' split
 all_goals
  refine ⟨?_,by dsimp only;omega⟩;simp [bV,cu,PY,Ac.get,Ac.ints,fin,zO,zeros]
  try omega
theorem ah3: ∀ a∈mks,bV a=0:=by
 intro a ha;simp only [mks,List.mem_cons,List.not_mem_nil,or_false] at ha
 rcases ha with rfl | rfl<;>rfl
theorem xG (gs:List Gr) (m:Nat) (cr:Bool): ∀ a∈bG gs m cr,bV a=0:=by
 intro a ha
 rcases List.mem_append.1 ha with h | h
 ·exact ah3 a h
 obtain ⟨g,_,rfl⟩:=List.mem_map.1 h;exact (XD g cr).1
theorem nS (gs:List Gr) (m:Nat) (cr:Bool):(bG gs m cr).length<=2+m:=by
 unfold bG mks;simp;omega
theorem LM {k:Int} {n:Nat} (h:(k=9\/k=3)/\n<5\/k=7/\n=0):bV (Ap k (n:Int))=0/\(Ap k (n:Int)).kd≠1:=by
 rcases h with ⟨h1,h⟩ | ⟨rfl,rfl⟩
 ·have:n=0\/n=1\/n=2\/n=3\/n=4:=by omega
  rcases h1 with rfl | rfl<;>rcases this with rfl | rfl | rfl | rfl | rfl<;>exact ⟨rfl,by show (_:Int)≠1;decide⟩
 exact ⟨rfl,by show (7:Int)≠1;decide⟩
theorem QW: ∀ (r:Nat),∀ a∈wz r,bV a=0/\a.kd≠1
 | 0,a,h=>by cases h
 | r+1,a,h=>by
  rw [Iw] at h
  rcases List.mem_append.1 h with h | h
  ·rcases List.mem_append.1 h with h | h
   ·exact QW r a h
   obtain ⟨n,hn,rfl⟩:=List.mem_map.1 h;exact LM (.inl ⟨.inr rfl,List.mem_range.1 hn⟩)
  rw [List.mem_singleton] at h;subst h;exact LM (n:=0) (.inr ⟨rfl,rfl⟩)
theorem Iy (r:Nat): ∀ a∈starts 5++wz r,bV a=0/\a.kd≠1:=by
 intro a h
 rcases List.mem_append.1 h with h | h
 ·obtain ⟨n,hn,rfl⟩:=List.mem_map.1 h;exact LM (.inl ⟨.inl rfl,List.mem_range.1 hn⟩)
 exact QW r a h
theorem pW (gs:List Gr) (m:Nat) (cr:Bool) (r:Nat): ∀ a∈jv (bG gs m cr) r,bV a=0:=by
 intro a h;unfold jv at h;rw [List.append_assoc] at h
 rcases List.mem_append.1 h with h | h
 ·exact xG gs m cr a h
 exact (Iy r a h).1
theorem yP (gs:List Gr) (m:Nat) (cr:Bool) (r:Nat):(jv (bG gs m cr) r).length<=7+m+6*r:=by
 have:=nS gs m cr;rw [Vq];omega
theorem Vt {gs:List Gr} {m r q:Nat} {cr:Bool} (h:m+6*r<=520) (hq:q<2): ∃ g k,LW (iX.run (jv (bG gs m cr) r)) q g k/\k<=540:=by
 have e:iX.run (jv (bG gs m cr) r)=CJ.run ((gs.take m).map (gX · cr)++(starts 5++wz r)):=by
  unfold jv bG;rw [List.append_assoc,List.append_assoc]
  show Cl.run ((iX.act (ad4 0 0)).act (ad4 1 1)) _=_
  rw [afZ,af0];rfl
 have hl:((gs.take m).map (gX · cr)++(starts 5++wz r)).length<=m+5+6*r:=by
  rw [List.length_append,List.length_map,List.length_take,List.length_append,LJ];simp [starts];omega
 rw [e];obtain ⟨g',h1,h2,_⟩:=aa4 (by omega) ((gs.take m).map (gX · cr)++(starts 5++wz r)) (aye hq) ayf (λa ha=>by
  rcases List.mem_append.1 ha with ha | ha
  ·obtain ⟨g,_,rfl⟩:=List.mem_map.1 ha;exact ⟨Oh (XD g cr).1,(XD g cr).2⟩
  exact ⟨Oh (Iy r a ha).1,(Iy r a ha).2⟩) (by omega)
 exact ⟨g',_,h1,by omega⟩
theorem RH (gs:List Gr) {m r:Nat} (h:m+6*r<=520) (cr:Bool):Bs (iX.run (jv (bG gs m cr) r)) 540:=by
 have h1:=yP gs m cr r;have:=Xt (jv (bG gs m cr) r) aiJ (λa ha=>Oh (pW gs m cr r a ha)) (by omega);exact fK.mono this (by omega) (by omega) (by omega) (by omega)
section
variable {Q Q2 Q3 y:Qd} {l:List dI} {i j k:Nat} {a b:dI} {e:Ev}
noncomputable def GN (l:List dI) (i:Nat):Qd:=(l.take i).foldl (λQ s=>(gU Q s.op).1) bT
theorem Vu (h:l[i]? =some a):GN l (i+1)=(gU (GN l i) a.op).1:=by
 unfold GN;rw [List.take_add_one,h,List.foldl_append];rfl
theorem XE (h:rp bT l=some y): ∀ i,i<=l.length->rp (GN l i) (l.drop i)=some y
 | 0,_=>h
 | i+1,hi=>by
  have hx:l[i]? =some l[i]:=List.getElem?_eq_getElem (by omega);have:=(Kq (XE h i (by omega)) hx).2.2;rwa [<-Vu hx] at this
def AO (Q Q':Qd):Prop:=Q.ep<Q'.ep\/Q.ep=Q'.ep/\Q.gv<=Q'.gv
theorem AO.refl:AO Q Q:= .inr ⟨rfl,Int.le_refl _⟩
theorem AO.trans (h:AO Q Q2) (h':AO Q2 Q3):AO Q Q3:=by unfold AO at*;omega
end
end
end Go.Proofs.YtnhimdkpkmbhlaaGreatDoor
