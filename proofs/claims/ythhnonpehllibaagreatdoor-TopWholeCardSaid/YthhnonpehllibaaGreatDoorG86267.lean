import Derived.Stop.LaidErr
import Derived.Test.YthhnonpehllibaaGreatDoorG18eac
import Derived.Test.YthhnonpehllibaaGreatDoorG7b3ca
import Derived.Test.YthhnonpehllibaaGreatDoorG85308
set_option maxRecDepth 100000
set_option maxHeartbeats 8000000
set_option linter.unusedSimpArgs false
set_option linter.unusedVariables false
namespace Go.Proofs.YthhnonpehllibaaGreatDoor
section
open ChangeShapes WideShapes RowKit
theorem TW {K:CK} {B n kn kw:Nat} {w0 w:World} {fs:List Fact} {m:Cl} {H:List LX} (hn:n<5) (hkn:K.nb n=kn) (bY:K.wb=kw) (hu:Uk B w0) (hB1:m.fly.length<=1000000000) (hB2:m.aV.length<=900000000000) (HW:Wd K B w0 w fs m H) (hT:Ck (m.ah n).data (m.ah n).syn=some (vB (bI (m.ah n).data (m.ah n).syn))) (hvv: ∀ q,q<4->au (bI (m.ah n).data (m.ah n).syn q)=0) (hbz:(uh (jD (m.ah n).data (m.ah n).syn).1 (jD (m.ah n).data (m.ah n).syn).2.1).1.length*80<=reachBytes) (hmay: ∀ d,eF (jD (m.ah n).data (m.ah n).syn).2.1 (bI (m.ah n).data (m.ah n).syn) [0,1,2,3] (jD (m.ah n).data (m.ah n).syn).1=some d->cO d (jD (m.ah n).data (m.ah n).syn).2.1=true) (hsh: ∀ a b,0<=(m.shown a b).2):
    Calls tP 32 #[pV kw 0,pV kn 0] w (λe w'=>e= .returned (.tuple #[])/\Wd K B w0 w' fs (m.start n) H):=by
 obtain ⟨R,G,S0⟩:=HW.open hn;have hfl:R.fx.length=m.fly.length:=by rw [<-G.fly,List.length_map]
 have NG:=G.kW n hn;obtain ⟨X,hX⟩: ∃ X,m.ah n=X:=⟨_,rfl⟩;obtain ⟨z,hz⟩: ∃ z,R.nx n=z:=⟨_,rfl⟩;rw [hX,hz] at S0 NG;have hL: ∀ f∈R.L,f∈fV K R m fs n:=λf h=>List.mem_append_right _ (List.mem_append_right _ h);obtain ⟨rr,hrr⟩: ∃ r,fV K R m fs n=r:=⟨_,rfl⟩;rw [hrr] at S0 hL;have S:St B w0 w (cN kn n X z z.pv (cF kw R m rr)):=by subst hkn;subst bY;exact S0
 clear S0 HW;have hlen:=(S.own 1 rfl).1;rw [iG (sz:=6) (λ_=>rfl)] at hlen;have aAD:z.pv.oneCell'=true:=afj NG.tL;obtain ⟨P1,hP1⟩: ∃ r,jD X.data X.syn=r:=⟨_,rfl⟩;rw [hX] at hT hvv hbz hmay;have HRd:=λw h=>Ho z.tA z.tc X.data X.syn w h hT hbz;rw [hP1] at HRd hmay;refine gB 113 Tryz.func32 ?_;refine cw [0,1] ?_;refine zN 9 ?_
 cases hb1:(X.up)
 ·refine bC (l':=[(0,pV kw 0),(1,pV kn 0),(18,.bool false)]) ⟨rfl,rfl,rfl,trivial⟩ (lG rfl (qz (gT (aQ (aC (vm ?_))))));refine zN 2 ?_;refine vv (aj rfl rfl (aA (cs:=[.slice z.tA X.data.length z.tc,iV X.syn]) Tryz.underlying83 rfl fB rfl (St.rg 0 S rfl (rJ)))) ?_;refine dI apG (HRd _ (NG.xL.rd S (memT 7 rfl hL))) ?_;rintro _ w9 ⟨A2,c3,bB,bs,hbm,hbl,hbc,rfl,T8⟩;refine ⟨_,rfl,?_⟩;have oC:=S.ext T8 (by simp [JY,Fact.Hr]);have qj:St B w0 w9 ((oB bB bs)::(.cu 1 A2 P1.1.length (byteCells P1.1))::(cN kn n X z z.pv (cF kw R m (rr++fq bs)))):=St.perm oC (List.Perm.cons _ (List.Perm.cons _ (List.perm_append_comm (l₁:=fq bs))));clear S;refine zN 3 ?_;refine fF qj yP ?_;intro b12 Dr kg;refine stA 0 kg fB ?_;intro G8 kQ;refine zN 6 ?_;refine dI ata (MB _ 4 4 (bs.flatMap BX.cells) _ (St.ord 1 kQ rfl) (aiP _) (by decide)) ?_;rintro _ Dq ⟨Me,c18,rfl,aAE,aAF⟩;refine ⟨_,rfl,?_⟩;have iR:=kQ.tQ aAE aAF;obtain ⟨wB,hWA⟩:=D6 (iR.own 0 rfl) (by decide);subst hWA;refine zN 8 ?_;refine fF iR atV ?_;intro yV Md jv;refine stA 0 jv acD ?_ (h1:=by exact auH rfl rfl rfl aAD);intro Nh tF;refine zN 6 ?_;refine jq (row':=dF n X.up (.slice A2 P1.1.length c3) P1.2.1 (.slice (aD z.bb 0) 4 4) X.hints X.sure (.slice z.iA z.ix.length z.ic) (z.pv) X.turn) 0 tF fB ?_;intro Yb sD;refine zN 11 ?_;have sH:=sD.aR [2];have kU:St B w0 Yb (_::_::_::_::_::_::_::_::_::_::((rr++fq bs)++[.cu 1 A2 P1.1.length (byteCells P1.1)])):=sH.toEnd 3 rfl;have o8:=kU.dU [9,9,9,9,9,9,9];refine dW (X:=Nat×(Option Addr)×Nat×(List UInt8)×(List BX)×(List Fact)) (λxv=>[(0,pV kw 0),(1,pV kn 0),(5,.slice (aD bB 0) 4 4),(6,.slice (aD wB 0) 4 c18),(7,pV yV 0),(34,.slice (aD bB 0) 4 4),(35,iV 4),(36,iV ((xv.1:Nat):Int))]) (λxv wr=>(xv.1<=4)/\(eF P1.2.1 (bI X.data X.syn) [0,1,2,3] P1.1=eF P1.2.1 (bI X.data X.syn) ((List.range 4).drop xv.1) xv.2.2.2.1)/\(xv.2.2.2.2.1.map BX.b=vB (λj=>if j<xv.1/\((bI X.data X.syn) j).role=1 then (eU ((bI X.data X.syn) j)).1 else (bI X.data X.syn) j))/\(∀ y∈xv.2.2.2.2.1,Bb (fq bs++xv.2.2.2.2.2) y)/\(Ro xv.2.2.2.2.2 1 xv.2.1 xv.2.2.2.1.length (byteCells xv.2.2.2.1))/\St B w0 wr (cN kn n X z z.pv (cF kw R m ((bN yV n X.up xv.2.1 xv.2.2.2.1 xv.2.2.1 P1.2.1 z.bb X.hints X.sure z.iA z.ix z.ic z.pv X.turn)::(.own 43 6 (.slice (aD wB 0) 4 c18) 4 ((xv.2.2.2.2.1).flatMap BX.cells))::(oB bB bs)::((rr++fq bs)++xv.2.2.2.2.2))))) (λxv=>4-xv.1) (0,A2,c3,P1.1,bs,[.cu 1 A2 P1.1.length (byteCells P1.1)]) ?_ ?_ ?_
  ·exact ⟨Nat.zero_le _,rfl,(by rw [hbm];exact apj),(λy hy=>(Oc hbc y hy).mono λf hf=>List.mem_append_left _ hf),(Ro.cu (List.mem_singleton.2 rfl)),o8⟩
  ·exact ⟨rfl,rfl,rfl,rfl,rfl,rfl,rfl,rfl,trivial⟩
  rintro ⟨k,A9,c9,d9,ws,N9⟩ Zg ⟨amn,Q6,VD,agp,QL,qG⟩
  try dsimp only at amn Q6 VD agp QL qG
  refine bC (l':=[(0,pV kw 0),(1,pV kn 0),(5,.slice (aD bB 0) 4 4),(6,.slice (aD wB 0) 4 c18),(7,pV yV 0),(34,.slice (aD bB 0) 4 4),(35,iV 4),(36,iV ((k:Nat):Int))]) ⟨rfl,rfl,rfl,rfl,rfl,rfl,rfl,rfl,trivial⟩ (aQ (aC ?_));by_cases h40:((k:Nat):Int)<4
  ·refine zN 10 ?_;have hk4:k<4:=by omega
   obtain ⟨y,hy,YC⟩:=UL hbm hk4;have sI:=Oc hbc y (List.mem_of_getElem? hy);obtain ⟨y0,hy0,_⟩:=UL VD hk4;have I9:ws.length=4:=by have:=congrArg List.length VD;simpa [vB] using this
   have hvk:=hvv k hk4;have hln:=jS (jl hvk);have yF:y.b.evs.length*48<=reachBytes:=by rw [YC];unfold reachBytes;omega
   have Lg:=wZ hvk;refine zN 2 ?_;refine vv (jh k) ?_;refine vv (aj rfl rfl (aA (cs:=BX.cells y) Tryz.underlying43 rfl aB rfl (Rd.vM (St.ord 9 qG rfl) (λ_ _ h=>bg (enc:=BX.cells) (sz:=6) (λ_=>rfl) hy h)))) ?_;refine fF qG fD ?_;intro b41 Uq p9;refine zQ ?_;refine stA 0 p9 aB ?_;intro Rt oD;refine zN 7 ?_;by_cases h46:y.b.role=1
   ·refine zN 7 ?_;obtain ⟨BR,pW⟩: ∃ r,eU y.b=r:=⟨_,rfl⟩;have HP:=λw h=>WS y.b.role y.b.ep y.b.fr y.b.tg y.b.rd y.A y.c y.b.evs w h yF;rw [show eU ⟨y.b.role,y.b.ep,y.b.fr,y.b.tg,y.b.rd,y.b.evs⟩=BR from pW] at HP;refine zN 2 ?_;refine dI atb (HP _ (sI.1.rd oD (memT 11 rfl (λf hf=>List.mem_append_left _ (List.mem_append_right _ hf))))) ?_;rintro _ Uu ⟨Mc,c48,auI,rfl,T52⟩;refine ⟨_,rfl,?_⟩;have tZ:=oD.ext T52 rfl;refine zN 3 ?_;refine fF tZ fD ?_;intro b53 ZG uK;refine stA 0 uK aB ?_;intro w56 qH;refine zN 7 ?_;refine cab Ih qH (je 2 k y _) ?_;intro w58 AX;refine fF AX wV ?_;intro b61 Ye wz;refine stA 0 wz jZ ?_;intro Yt F6;refine zN 4 ?_;refine vv (v:= .agg #[iV 4,iV 0,iV 0,iV 0,iV 0,iV 0]) gD ?_;refine zQ ?_;refine jq (row':= #[iV 2,iV ((k:Nat):Int),iV y.b.ep,iV 0,iV 4,iV 0,iV 0,iV 0,iV 0,iV 0]) 0 F6 iE ?_;intro Ut uf;refine zN 4 ?_;by_cases hB:BR.2=0
    ·rcases agq:eG d9 P1.2.1 [fI 2 k y.b.ep 0 aM] with _ | aAG
     ·refine zN 5 ?_;refine mD (V:=λb=> .slice (aD b 0) 1 1) (row:= #[iV 2,iV ((k:Nat):Int),iV y.b.ep,iV 0,iV 4,iV 0,iV 0,iV 0,iV 0,iV 0]) (t:=124) uf (wg rfl rfl rfl rfl) rfl rfl (aU (vs:=[(0,.agg #[iV 2,iV ((k:Nat):Int),iV y.b.ep,iV 0,iV 4,iV 0,iV 0,iV 0,iV 0,iV 0])]) rfl ⟨rfl,rfl,trivial⟩ (by kernel_rfl)) ?_;intro b70 w71 ES;have tH:=ES.dU [12];refine xY FT (MC (rs:=[fI 2 k y.b.ep 0 aM]) agq (Ro.blk (List.mem_iff_getElem?.2 ⟨0,rfl⟩) rfl rfl) QL (by exact memT 14 rfl λf hf=>List.mem_append_right _ hf) (Nat.le_of_ble_eq_true rfl) tH) ?_;rintro _ w78 ⟨rfl,AQ⟩;refine ⟨_,rfl,?_⟩;refine zN 13 ?_;have AY:=AQ.aR [14,13,5,4,3,2,1,0];have sF:=(AY).Qj.Qj;have hr1:((bI X.data X.syn) k).role=1:=by rw [<-YC];omega
      have qF:m.start n=m:=Sq hX (by assumption) (by rw [hP1,Q6,mM hk4];exact afl hr1 (by rw [<-YC];exact agq));rw [qF];exact ⟨rfl,Wd.dJ (X':=X) (z':=z) (Ls:=[]) (fA:=R.fA) (fc:=R.fc) (fx:=R.fx) (sA:=R.sA) (sc:=R.sc) (tA:=R.tA) (tc:=R.tc) hkn bY hrr G hn sF NG.more (λu hu=> .inl hu) (aI hX).symm G.fly.symm mI⟩
     refine zN 5 ?_;refine mD (V:=λb=> .slice (aD b 0) 1 1) (row:= #[iV 2,iV ((k:Nat):Int),iV y.b.ep,iV 0,iV 4,iV 0,iV 0,iV 0,iV 0,iV 0]) (t:=124) uf (wg rfl rfl rfl rfl) rfl rfl (aU (vs:=[(0,.agg #[iV 2,iV ((k:Nat):Int),iV y.b.ep,iV 0,iV 4,iV 0,iV 0,iV 0,iV 0,iV 0])]) rfl ⟨rfl,rfl,trivial⟩ (by kernel_rfl)) ?_;intro b82 w83 EX;have Jl:=EX.dU [12];refine xY FT (ME (rs:=[fI 2 k y.b.ep 0 aM]) agq (Ro.blk (List.mem_iff_getElem?.2 ⟨0,rfl⟩) rfl rfl) QL (by exact memT 14 rfl λf hf=>List.mem_append_right _ hf) (Nat.le_of_ble_eq_true rfl) Jl) ?_;rintro _ w90 ⟨A86,c87,N88,rfl,auJ,Ma⟩;refine ⟨_,rfl,?_⟩;refine zN 11 ?_;refine vv (jh k) ?_;refine kZ (xs':=(ws.set k (⟨BR.1,Mc,c48⟩:BX)).flatMap BX.cells) 13 Ma (wn rfl) rfl rfl rfl rfl rfl rfl aB rfl (bX rfl) (by omega) (by rw [Nat.zero_add];exact qd (enc:=BX.cells) (sz:=6) (λ_=>rfl) (⟨BR.1,Mc,c48⟩:BX) _ _ (by omega)) ?_;intro w92 CF;have aHI:(ws.set k (⟨BR.1,Mc,c48⟩:BX))[k]? =some (⟨BR.1,Mc,c48⟩:BX):=List.getElem?_set_self (by omega);refine zN 4 ?_;refine vv (v:=iV ((k+1:Nat):Int)) gN ?_;refine zN 2 ?_;have Du:=CF.aR [5,3,2,1];have zl:St B w0 w92 (_::_::_::_::_::_::_::_::_::_::((((rr++fq bs)++N9)++N88)++[.cu 6 Mc BR.1.evs.length ((BR.1.evs).flatMap Ev.cells)])):=Du.toEnd 1 rfl;have CO:=zl.dU [7,7,7,7,7,7,7];have zO:=CO;have hr1:((bI X.data X.syn) k).role=1:=by rw [<-YC];omega
     have hap:((((rr++fq bs)++N9)++N88)++[.cu 6 Mc BR.1.evs.length ((BR.1.evs).flatMap Ev.cells)])=((rr++fq bs)++(N9++(N88++[.cu 6 Mc BR.1.evs.length ((BR.1.evs).flatMap Ev.cells)]))):=by simp only [List.append_assoc]
     rw [hap] at zO;refine aS (k+1,A86,c87,aAG,ws.set k (⟨BR.1,Mc,c48⟩:BX),N9++(N88++[.cu 6 Mc BR.1.evs.length ((BR.1.evs).flatMap Ev.cells)])) ?_ ⟨rfl,rfl,rfl,rfl,rfl,rfl,rfl,rfl,trivial⟩ (by first | omega | (dsimp only;omega));exact ⟨(by dsimp only;omega),(by dsimp only;rw [Q6,mM hk4];exact aa9 hr1 (by rw [<-YC,pW];exact hB) (by rw [<-YC];exact agq)),(by dsimp only;rw [List.map_set,VD];exact aa7 hk4 hr1 (by rw [<-YC,pW])),(DF (λu hu=>(agp u hu).mono (λf hf=>(List.mem_append.1 hf).elim (λh=>List.mem_append_left _ h) λh=>List.mem_append_right _ (List.mem_append_left _ h))) ⟨Ro.cu (List.mem_append_right _ (List.mem_append_right _ (List.mem_append_right _ (List.mem_singleton.2 rfl)))),auI⟩),(auJ.mono (λf hf=>(List.mem_append.1 hf).elim (λh=>List.mem_append_left _ h) λh=>List.mem_append_right _ (List.mem_append_left _ h))),zO⟩
    refine zN 20 ?_;have Ur:=uf.aR [13,12,11,3,2,1,0];have rV:=(Ur).Qj.Qj;have hr1:((bI X.data X.syn) k).role=1:=by rw [<-YC];omega
    have qF:m.start n=m:=Sq hX (by assumption) (by rw [hP1,Q6,mM hk4];exact afk hr1 (by rw [<-YC,pW];exact hB));rw [qF];exact ⟨rfl,Wd.dJ (X':=X) (z':=z) (Ls:=[]) (fA:=R.fA) (fc:=R.fc) (fx:=R.fx) (sA:=R.sA) (sc:=R.sc) (tA:=R.tA) (tc:=R.tc) hkn bY hrr G hn rV NG.more (λu hu=> .inl hu) (aI hX).symm G.fly.symm mI⟩
   refine zN 9 ?_;refine vv (v:=iV ((k+1:Nat):Int)) gN ?_;refine zN 2 ?_;have vU:=oD.aR [0];have sO:=vU;have hro: ¬ ((bI X.data X.syn) k).role=1:=by rw [<-YC];assumption
   refine aS (k+1,A9,c9,d9,ws,N9) ?_ ⟨rfl,rfl,rfl,rfl,rfl,rfl,rfl,rfl,trivial⟩ (by first | omega | (dsimp only;omega));exact ⟨(by dsimp only;omega),(by dsimp only;rw [Q6,mM hk4];exact aa8 hro),(by dsimp only;rw [VD];exact aa6 hro),agp,QL,sO⟩
  refine zN 15 ?_;refine jq (row':=dF n true (.slice z.tA X.data.length z.tc) X.syn (.slice (aD z.bb 0) 4 4) X.hints X.sure (.slice z.iA z.ix.length z.ic) (z.pv) X.turn) 0 qG Ie ?_;intro az9 yw;refine zN 5 ?_;refine dI QA (mV yw hu) ?_;rintro _ Z7 ⟨rfl,auK,yu⟩;refine ⟨_,rfl,?_⟩;have uV:=yu.aR [3,2,1];refine zN 6 ?_;refine vv (aj rfl rfl (aA (cs:=[.slice A9 d9.length c9,iV P1.2.1]) Tryz.underlying83 rfl fB rfl (St.rg 5 uV rfl (rJ)))) ?_;have hwA:eF P1.2.1 (bI X.data X.syn) [0,1,2,3] P1.1=some d9:=by rw [Q6,List.drop_eq_nil_of_le (by rw [List.length_range];omega)];rfl
  have Fv:=λw h=>Ap (om A9 d9.length c9 d9 P1.2.1 w h);rw [xR (hmay _ hwA)] at Fv;refine dI QB (Fv _ (QL.rd uV (memT 8 rfl λf hf=>List.mem_append_right _ hf))) ?_;rintro _ Z9 ⟨NV,QZ,rfl,aAH⟩;refine ⟨_,rfl,?_⟩;have vT:=uV.ext aAH rfl;refine zN 5 ?_;refine jq (row':=dF n true (.slice NV d9.length QZ) ((d9.length:Nat):Int) (.slice (aD auK 0) 4 4) (λ_=>nowhere) (λ_=>false) (.slice none 0 0) (.nilFunc) X.turn) 1 vT fB ?_;intro af3 nY;refine zN 8 ?_;refine jq (row':=dF n true (.slice NV d9.length QZ) ((d9.length:Nat):Int) (.slice (aD bB 0) 4 4) (λ_=>nowhere) (λ_=>false) (.slice none 0 0) (.nilFunc) X.turn) 1 nY tX ?_;intro arZ zH;refine zN 10 ?_;have hwA:eF P1.2.1 (bI X.data X.syn) [0,1,2,3] P1.1=some d9:=by rw [Q6,List.drop_eq_nil_of_le (by rw [List.length_range];omega)];rfl
  have aAI:k=4:=by omega
  have hsp:=VD;rw [aAI] at hsp;have vS:=zH.aR [6];have qJ:=vS.BL 105 23;have oF:=(((((((((qJ.bring 7 rfl).bring 2 rfl).bring 7 rfl).bring 7 rfl).bring 7 rfl).bring 7 rfl).bring 6 rfl).bring 8 rfl).bring 8 rfl);rw [show ((rr++fq bs)++N9)=(rr++(fq bs++N9)) from List.append_assoc ..] at oF;obtain ⟨m1,hm1⟩: ∃ k,k=m.put n { X.blank with up:=true,data:=d9,syn:=((d9.length:Nat):Int),bs:=(bI X.data X.syn) }:=⟨_,rfl⟩;have HW1:Wd K B w0 arZ ((.own 43 6 (.slice (aD wB 0) 4 c18) 4 ((ws).flatMap BX.cells))::fs) m1 (hwl ws++H):=by
   rw [hm1];refine Wd.fin (m:=m) (fs:=(.own 43 6 (.slice (aD wB 0) 4 c18) 4 ((ws).flatMap BX.cells))::fs) (X':={ X.blank with up:=true,data:=d9,syn:=((d9.length:Nat):Int),bs:=(bI X.data X.syn) }) (z':={ bb:=bB,tA:=NV,tc:=QZ,bx:=bs,iA:=none,ic:=0,ix:=[],pv:= .nilFunc }) (N:=fq bs++N9) (Ls:=[.cu 1 NV d9.length (byteCells d9)]) (rr:=(.own 43 6 (.slice (aD wB 0) 4 c18) 4 ((ws).flatMap BX.cells))::rr) (H:=H) (fA:=R.fA) (fc:=R.fc) (fx:=R.fx) (sA:=R.sA) (sc:=R.sc) (tA:=R.tA) (tc:=R.tc) hkn bY (by rw [<-hrr];rfl) G hn oF ⟨hbm,λu hu=>(Oc hbc u hu).mono (λf hf=>aAB hf),Ro.cu (rM (List.mem_singleton.2 rfl)),rfl,λu hu=>by simp at hu,rfl⟩ (λu hu=> .inl hu) rfl G.fly.symm ?_;exact ajh λy hy=>(agp y hy).mono λf hf=>aAC hf
  have hwo:=abb hwA;have ar7:m1.ah n={ X.blank with up:=true,data:=d9,syn:=((d9.length:Nat):Int),bs:=(bI X.data X.syn) }:=by rw [hm1];exact bM _
  refine dW (X:=Nat×Cl) (λxv=>[(0,pV kw 0),(1,pV kn 0),(85,.slice (aD wB 0) 4 c18),(86,iV 4),(87,iV ((xv.1:Nat):Int))]) (λxv wr=>(Wd K B w0 wr ((.own 43 6 (.slice (aD wB 0) 4 c18) 4 ((ws).flatMap BX.cells))::fs) xv.2 (hwl ws++H))/\(Cl.woken n (bI X.data X.syn) [0,1,2,3] m1=Cl.woken n (bI X.data X.syn) ((List.range 4).drop xv.1) xv.2)/\(xv.1<=4)/\(xv.2.fly=m.fly)/\(∀ j,j<4->au ((xv.2.ah n).bs j)=0)/\(∀ j,xv.1<=j->j<4->(xv.2.ah n).bs j=(bI X.data X.syn) j)/\(∀ a b,0<=(xv.2.shown a b).2)/\(xv.2.aV.length<=m.aV.length+2001*xv.1)/\St B w0 wr [.own 43 6 (.slice (aD wB 0) 4 c18) 4 ((ws).flatMap BX.cells)]) (λxv=>4-xv.1) (0,m1) ?_ ?_ ?_
  ·exact ⟨HW1,rfl,Nat.zero_le _,by rw [hm1];rfl,λj hj=>by dsimp only;rw [ar7];exact hvv j hj,λj _ _=>by dsimp only;rw [ar7],λa b=>by dsimp only;rw [hm1];exact hsh a b,by dsimp only;rw [hm1];exact Nat.le_refl _,Wd.wM (gs:=[.own 43 6 (.slice (aD wB 0) 4 c18) 4 ((ws).flatMap BX.cells)]) HW1⟩
  ·exact ⟨rfl,rfl,rfl,rfl,rfl,trivial⟩
  rintro ⟨k2,mm⟩ aag ⟨acd,VE,auL,VF,LV,VG,VH,auM,Ci⟩
  try dsimp only at acd VE auL VF LV VG VH auM Ci
  refine bC (l':=[(0,pV kw 0),(1,pV kn 0),(85,.slice (aD wB 0) 4 c18),(86,iV 4),(87,iV ((k2:Nat):Int))]) ⟨rfl,rfl,rfl,rfl,rfl,trivial⟩ ?_;obtain ⟨R3,G3,UM⟩:=acd.open hn;have Sr:=G3.kW n hn;obtain ⟨X3,Bn⟩: ∃ X,mm.ah n=X:=⟨_,rfl⟩;obtain ⟨z3,hz3⟩: ∃ z,R3.nx n=z:=⟨_,rfl⟩;rw [Bn,hz3] at UM Sr;obtain ⟨YD,IY⟩: ∃ r,fV K R3 mm fs n=r:=⟨_,rfl⟩;have aHJ:R3.fx.length=mm.fly.length:=by rw [<-G3.fly,List.length_map]
  have uW:St B w0 aag (cN kn n X3 z3 z3.pv (cF kw R3 mm ((.own 43 6 (.slice (aD wB 0) 4 c18) 4 ((ws).flatMap BX.cells))::YD))):=by rw [<-IY];subst hkn;subst bY;exact UM
  clear UM;have hlen3:=(uW.own 1 rfl).1;rw [iG (sz:=6) (λ_=>rfl)] at hlen3;rw [Bn] at LV VG;refine zN 2 ?_;by_cases aAJ:((k2:Nat):Int)<4
  ·refine zN 10 ?_;have hk4:k2<4:=by omega
   obtain ⟨x,hx,hxs⟩:=UL hsp hk4;refine zN 2 ?_;refine vv (jh k2) ?_;refine vv (aj rfl rfl (aA (cs:=BX.cells x) Tryz.underlying43 rfl aB rfl (Rd.vM (St.ord 7 uW rfl) (λ_ _ h=>bg (enc:=BX.cells) (sz:=6) (λ_=>rfl) hx h)))) ?_;refine fF uW fD ?_;intro amo af4 Ch;refine zQ ?_;refine sa 0 Ch aB ?_;intro ZT Ed;refine zN 7 ?_;by_cases aHK:x.b.role=1
   ·refine zN 11 ?_;have zA:=Ed.dU [7,7,7,7,7,7,7];have auN:=Wd.dJ (m:=mm) (m':=mm) (H:=hwl ws++H) (H':=hwl ws++H) (fs:=(.blk amo (bR x.b x.A x.c) 43)::(.own 43 6 (.slice (aD wB 0) 4 c18) 4 ((ws).flatMap BX.cells))::fs) (X':=X3) (z':=z3) (Ls:=[]) (fA:=R3.fA) (fc:=R3.fc) (fx:=R3.fx) (sA:=R3.sA) (sc:=R3.sc) (tA:=R3.tA) (tc:=R3.tc) (rr:=(.blk amo (bR x.b x.A x.c) 43)::(.own 43 6 (.slice (aD wB 0) 4 c18) 4 ((ws).flatMap BX.cells))::YD) hkn bY (by rw [<-IY];rfl) G3 hn zA Sr.more (λu hu=> .inl hu) (aI Bn).symm G3.fly.symm mI;refine dI atc (Jq hn hkn bY hu (by rw [VF];exact hB1) (by omega) hk4 auN (by rw [Bn];exact LV) (VH n k2)) ?_;rintro _ ar8 ⟨rfl,akJ⟩;refine ⟨_,rfl,?_⟩;have MW:=Fx mm n k2 (VH);have hrs:=(Fb (n:=n) (q:=k2) mm (by rw [Bn];exact jS (jl (LV k2 hk4)))).2;obtain ⟨mc,hmc⟩: ∃ k,k=mm.recover n k2:=⟨_,rfl⟩;rw [<-hmc] at akJ MW hrs;obtain ⟨R5,G5,S05⟩:=akJ.open hn;have NG5:=G5.kW n hn;obtain ⟨X5,hX5⟩: ∃ X,mc.ah n=X:=⟨_,rfl⟩;obtain ⟨z5,hz5⟩: ∃ z,R5.nx n=z:=⟨_,rfl⟩;rw [hX5,hz5] at S05 NG5;obtain ⟨rr5,ar9⟩: ∃ r,fV K R5 mc fs n=r:=⟨_,rfl⟩;have aHL:R5.fx.length=mc.fly.length:=by rw [<-G5.fly,List.length_map]
    have K8:St B w0 ar8 (cN kn n X5 z5 z5.pv (cF kw R5 mc ((.blk amo (bR x.b x.A x.c) 43)::(.own 43 6 (.slice (aD wB 0) 4 c18) 4 ((ws).flatMap BX.cells))::rr5))):=by rw [<-ar9];subst hkn;subst bY;exact S05
    clear S05;have auO:=(K8.own 1 rfl).1;rw [iG (sz:=6) (λ_=>rfl)] at auO;obtain ⟨y5,hy5,aHM,aHN⟩:=NG5.at_ hk4;refine zN 3 ?_;have VI:=K8.drew;refine fC 8 6 VI [] ?_;iterate 6 refine gM ?_
    refine eD (by kernel_rfl) rfl rfl rfl ?_;refine vv (jh k2) ?_;refine kZ (xs':=(z5.bx.set k2 (⟨x.b,x.A,x.c⟩:BX)).flatMap BX.cells) 1 VI (wn rfl) rfl rfl rfl rfl rfl rfl aB rfl (bX rfl) (by omega) (by rw [Nat.zero_add];exact qd (enc:=BX.cells) (sz:=6) (λ_=>rfl) (⟨x.b,x.A,x.c⟩:BX) _ _ (by omega)) ?_;intro aAK Iy;have hy153:(z5.bx.set k2 (⟨x.b,x.A,x.c⟩:BX))[k2]? =some (⟨x.b,x.A,x.c⟩:BX):=List.getElem?_set_self (by omega);refine zQ ?_;refine iU ?_;refine zN 5 ?_;refine vv (v:= .agg #[iV 4,iV 0,iV 0,iV 0,iV 0,iV 0]) gD ?_;refine zQ ?_;refine dI Hz (mU hn hk4 hy153 aM eH (-1) Iy (by omega)) ?_;rintro _ aAL ⟨rfl,aAM,aAN,aEa,auP,amq⟩;refine ⟨_,rfl,?_⟩;subst auP;have Ny:=amq.aR [7];have hr1:((bI X.data X.syn) k2).role=1:=afn hxs (by omega);have hxb:x.b=iy ((bI X.data X.syn) k2):=by rw [hxs,if_pos ⟨hk4,hr1⟩,(hwo k2 hk4 hr1).2]
    obtain ⟨md,hmd⟩: ∃ k,k=(mc.aZ n k2 x.b).tell n k2 aM eH (-1):=⟨_,rfl⟩;have aAO:md=((mm.recover n k2).aZ n k2 (eU ((bI X.data X.syn) k2)).1).tell n k2 aM eH (-1):=by rw [hmd,hmc,hxb,(hwo k2 hk4 hr1).2]
    have abf:md={ mc.put n (X5.aZ k2 x.b) with aV:=mc.aV++[⟨n,k2,x.b.ep,aM,eH,-1⟩],shown:=gX mc.shown n k2 (x.b.ep,(x.b.evs.length:Int)) }:=by rw [hmd];exact abd hX5
    have aAP:md.fly=mm.fly:=by rw [abf];exact MW.2.1
    have hnm:(mc.ah n)=X3:=by rw [MW.1,Bn]
    have asa:X5=X3:=by rw [<-hX5];exact hnm
    have asb:md.ah n=X5.aZ k2 x.b:=by rw [abf];exact bM _
    have aAQ: ∀ j,j<4->au ((md.ah n).bs j)=0:=λj hj=>by rw [asb];exact ajg (by rw [asa];exact LV) (by rw [hxb];exact (hwo k2 hk4 hr1).1) j hj
    have aAR: ∀ j,k2+1<=j->j<4->(md.ah n).bs j=(bI X.data X.syn) j:=λj h1 h2=>by rw [asb,asa];exact (upd_ne (by omega)).trans (VG j (by omega) h2)
    have aAS: ∀ a b,0<=(md.shown a b).2:=by rw [abf];exact IX (a:=n) (q:=k2) (e:=x.b.ep) (l:=x.b.evs) MW.2.2
    have aHO:md.aV.length=mc.aV.length+1:=by rw [abf];exact List.length_append ..
    clear hmd;have akK:Wd K B w0 aAL ((.own 43 6 (.slice (aD wB 0) 4 c18) 4 ((ws).flatMap BX.cells))::fs) md (hwl ws++H):=by
     rw [abf];exact Wd.dJ (m:=mc) (H:=hwl ws++H) (fs:=(.own 43 6 (.slice (aD wB 0) 4 c18) 4 ((ws).flatMap BX.cells))::fs) (X':=X5.aZ k2 x.b) (z':={ z5 with bx:=z5.bx.set k2 (⟨x.b,x.A,x.c⟩:BX) }) (Ls:=[]) (fA:=R5.fA) (fc:=R5.fc) (fx:=R5.fx) (sA:=aAM) (sc:=aAN) (tA:=R5.tA) (tc:=R5.tc) (rr:=(.own 43 6 (.slice (aD wB 0) 4 c18) 4 ((ws).flatMap BX.cells))::rr5) hkn bY (by rw [<-ar9];rfl) G5 hn Ny (dN.akH (Y:=x) NG5.more hk4 (apk G5.hld hx).more) (λu hu=> .inl hu) rfl G5.fly.symm mI
    refine zN 4 ?_;refine vv (v:=iV ((k2+1:Nat):Int)) gN ?_;refine zN 2 ?_;refine aS (k2+1,md) ?_ ⟨rfl,rfl,rfl,rfl,rfl,trivial⟩ (by first | omega | (dsimp only;omega));exact ⟨akK,(by dsimp only;rw [VE,mM hk4];exact Xo hr1 aAO),(by dsimp only;omega),(by dsimp only;rw [aAP];exact VF),(by dsimp only;exact aAQ),(by dsimp only;exact aAR),(by dsimp only;exact aAS),(by dsimp only;omega),(Wd.wM (gs:=[.own 43 6 (.slice (aD wB 0) 4 c18) 4 ((ws).flatMap BX.cells)]) akK)⟩
   refine zN 9 ?_;refine vv (v:=iV ((k2+1:Nat):Int)) gN ?_;refine zN 2 ?_;have Iz:=Ed.aR [0];have VJ:=Wd.dJ (m:=mm) (m':=mm) (H:=hwl ws++H) (H':=hwl ws++H) (fs:=(.own 43 6 (.slice (aD wB 0) 4 c18) 4 ((ws).flatMap BX.cells))::fs) (X':=X3) (z':=z3) (Ls:=[]) (fA:=R3.fA) (fc:=R3.fc) (fx:=R3.fx) (sA:=R3.sA) (sc:=R3.sc) (tA:=R3.tA) (tc:=R3.tc) (rr:=(.own 43 6 (.slice (aD wB 0) 4 c18) 4 ((ws).flatMap BX.cells))::YD) hkn bY (by rw [<-IY];rfl) G3 hn Iz Sr.more (λu hu=> .inl hu) (aI Bn).symm G3.fly.symm mI;have hro: ¬ ((bI X.data X.syn) k2).role=1:=afm (hwo k2 hk4) hxs (by assumption);refine aS (k2+1,mm) ?_ ⟨rfl,rfl,rfl,rfl,rfl,trivial⟩ (by first | omega | (dsimp only;omega));exact ⟨VJ,(by dsimp only;rw [VE,mM hk4];exact Xn hro),(by dsimp only;omega),VF,(by dsimp only;rw [Bn];exact LV),(by dsimp only;rw [Bn];exact λj h1 h2=>VG j (by omega) h2),VH,(by dsimp only;omega),(Wd.wM (gs:=[.own 43 6 (.slice (aD wB 0) 4 c18) 4 ((ws).flatMap BX.cells)]) VJ)⟩
  refine zN 10 ?_;have qF:m.start n=mm:=by rw [abe hX (by assumption) (by rw [hP1];exact hwA),<-hm1,VE,List.drop_eq_nil_of_le (by rw [List.length_range];omega)];rfl
  rw [qF];exact ⟨rfl,afp (Wd.less (gs:=[.own 43 6 (.slice (aD wB 0) 4 c18) 4 ((ws).flatMap BX.cells)]) acd)⟩
 refine bC (l':=[(0,pV kw 0),(1,pV kn 0),(18,.bool true)]) ⟨rfl,rfl,rfl,trivial⟩ (lF rfl (nN (gV (dM (rs:=[]) (vs:=[]) rfl trivial ?_))));have qF:m.start n=m:=afo (by rw [hX];assumption);rw [qF];exact ⟨rfl,Wd.dJ (X':=X) (z':=z) (Ls:=[]) (fA:=R.fA) (fc:=R.fc) (fx:=R.fx) (sA:=R.sA) (sc:=R.sc) (tA:=R.tA) (tc:=R.tc) hkn bY hrr G hn S NG.more (λu hu=> .inl hu) (aI hX).symm G.fly.symm mI⟩
section
variable {X:Nd} {m:Cl} {n k q:Nat} {p:fM}
theorem Ga.nu (h:Ga X): ∀ q,q<4->au (X.bs q)=0:=by
 rcases h with ⟨_,rs,us,h⟩ | ⟨_,rs,t,f,h⟩
 ·exact h.nu
 exact h.bz
theorem Ga.tp (h:Ga X): ∃ rs t f,X.data=bJ rs++t/\(firstM t).2=0/\iH rs f/\(∀ q,q<4->au (f q)=0)/\X.data.length<=100000/\0<=X.syn/\X.syn<=X.data.length:=by
 rcases h with ⟨_,rs,us,h⟩ | ⟨_,rs,t,f,h⟩
 ·have hd:=h.data;have hl:=congrArg List.length hd;rw [kV,List.length_append] at hl;have hs:=h.syn
  cases hp:X.pend with
  | none=>
   have hu:=h.Yy hp;refine ⟨rs,[],_,by rw [hd,hu,List.append_nil,List.append_nil],xG,h.tape,λq hq=>(UE h.nu hq).1,h.len,by omega,by omega⟩
  | some p=>
   obtain ⟨h1,h2,h3⟩:=h.UD p hp;obtain ⟨h4,h5⟩:=oJ h.tape h.nu h2 h3;rw [<-h1] at h4;refine ⟨rs++us,[],_,by rw [hd,List.append_nil],xG,h4,λq hq=>?_,h.len,by omega,by omega⟩;refine uw ?_;by_cases e:q=p.q
   ·rw [e,upd_same];exact h5
   rw [upd_ne e];exact h.nu q hq
 exact ⟨rs,t,f,h.data,h.arn,h.tape,λq hq=>(h.nu q hq).1,h.len,h.syn.1,h.syn.2⟩
theorem Ga.may (h:Ga X):cO X.data X.syn=true:=by
 obtain ⟨rs,t,f,_,_,_,_,h1,h2,h3⟩:=h.tp;simp only [cO,Bool.and_eq_true,decide_eq_true_eq];exact ⟨⟨h1,h2⟩,h3⟩
theorem Ga.aAT (h:Ga X) {rs:List dB} {d:List UInt8} (hw:eG X.data X.syn rs=some d):cO d X.syn=true:=by
 obtain ⟨_,_,_,_,_,_,_,h1,h2,h3⟩:=h.tp;obtain ⟨w1,_,w3⟩:=rO hw;have:=w3 h1;have hl:=congrArg List.length w1;rw [List.length_append] at hl;simp only [cO,Bool.and_eq_true,decide_eq_true_eq];omega
theorem Ga.fit (h:Ga X) (hp:X.pend=some p):p.fit/\cO X.data X.syn=true:=by
 refine ⟨?_,h.may⟩
 rcases h with ⟨_,rs,us,h⟩ | ⟨_,rs,t,f,h⟩
 ·obtain ⟨h1,h2,h3⟩:=h.UD p hp;obtain ⟨h4,h5⟩:=oJ h.tape h.nu h2 h3
  cases p with
  | serve q evs op num a=>exact ⟨h3,jS h2.2.2.2⟩
  | begun q b=>exact h3
  | got q b last=>exact h3
  | iN q b at_=>exact ⟨h3,h5⟩
  | forget q b=>exact h3
 rw [h.tL] at hp;cases hp
theorem O4 {s:Int} {f:Nat->bK}: ∀ (ql:List Nat) {d d':List UInt8},eF s f ql d=some d'->d.length<=d'.length/\(d.length<=100000->d'.length<=100000)
 | [],d,d',h=>by cases h;exact ⟨Nat.le_refl _,id⟩
 | q::r,d,d',h=>by
  rw [eF] at h
  split at h
  ·exact O4 r h
  split at h
  ·cases h
  split at h
  ·cases h
  rename_i d2 hw
  obtain ⟨w1,_,w3⟩:=rO hw;obtain ⟨h1,h2⟩:=O4 r h;rw [w1,List.length_append] at h1;exact ⟨by omega,λh0=>h2 (w3 h0)⟩
theorem YE: ∀ (rs:List dB),6*rs.length<=(bJ rs).length
 | []=>by simp [bJ]
 | r::rs=>by
  have h1:=(zK r).1;have h2:=YE rs;have e:bJ (r::rs)=lI r++bJ rs:=by simp [bJ,List.flatMap_cons]
  rw [e,List.length_append,List.length_cons];omega
theorem Ga.LY (h:Ga X):Ck X.data X.syn=some (vB (bI X.data X.syn))/\(∀ q,q<4->au (bI X.data X.syn q)=0)/\(uh (jD X.data X.syn).1 (jD X.data X.syn).2.1).1.length*80<=reachBytes/\
  (∀ d,eF (jD X.data X.syn).2.1 (bI X.data X.syn) [0,1,2,3] (jD X.data X.syn).1=some d->cO d (jD X.data X.syn).2.1=true):=by
 obtain ⟨rs,t,f,hd,ht,hT,hb,h1,h2,h3⟩:=h.tp;obtain ⟨r1,r2,r3⟩:=hT.read hd ht h1 h2 h3;have hl:(bJ rs).length<=X.data.length:=by rw [hd,List.length_append];omega
 have hg:=YE rs;refine ⟨by rw [r2,zU λq hq=>(r3 q hq).symm],λq hq=>by rw [r3 q hq];exact hb q hq,?_,λd hw=>?_⟩
 ·rw [r1];unfold uh;rw [if_pos (by simp [cO];omega)];have:=yg (t:=[]) hT.1 xG;rw [List.append_nil] at this;dsimp only;rw [this];unfold reachBytes;dsimp only;omega
 rw [r1] at hw⊢;obtain ⟨g1,g2⟩:=O4 _ hw;dsimp only at g1 g2 hw⊢;have g3:=g2 (by omega);simp only [cO,Bool.and_eq_true,decide_eq_true_eq];omega
theorem lU.tgt {l:iD} (h:lU l): ∃ j,j<5/\(l.tg= -1\/l.tg= -2\/l.tg=((j:Nat):Int)):=by
 obtain ⟨_,_,h1 | h1 | h1,_⟩:=h
 ·exact ⟨0,by omega,.inl h1⟩
 ·exact ⟨0,by omega,.inr (.inl h1.1)⟩
 exact ⟨l.tg.toNat,by omega,.inr (.inr (by omega))⟩
theorem fJ.fl {T S D K:Nat} (h:fJ m T S D K):m.fly.length<=T:=by
 have:=NQ m (n:=0) (by omega);have:=h.room;omega
theorem fJ.il {T S D K:Nat} (h:fJ m T S D K) (hn:n<5):(m.ah n).inbox.length<=T:=by
 have:=NQ m hn;have:=h.room;omega
theorem fJ.fi {T S D K:Nat} (h:fJ m T S D K) (hn:n<5):m.fly.length+(m.ah n).inbox.length<=T:=by
 have:=NQ m hn;have:=h.room;omega
end
def ShN (m:Cl):Prop:= ∀ a b,0<=(m.shown a b).2
section
variable {m m':Cl} {n q:Nat} {l:iD}
theorem ShN.of (h:ShN m) (e:m'.shown=m.shown):ShN m':=λa b=>by rw [e];exact h a b
theorem ShN.tell {e:Ev} {a:iZ} {u:Int} (h:ShN m):ShN (m.tell n q e a u):=IX h
theorem ShN.done {op:Ev} {u:Int} {a:iZ} (h:ShN m):ShN (m.done n q op u a):=by
 unfold Cl.done
 split
 ·exact (h.tell (n:=n) (q:=q) (e:=op) (a:=a) (u:=u)).of rfl
 exact h.of rfl
theorem ShN.part {a:Int} (h:ShN m):ShN (m.part n q a):=by
 unfold Cl.part
 split
 ·exact h
 exact h.of rfl
theorem ShN.serve (h:ShN m):ShN (m.serve n l):=by
 unfold Cl.serve
 split
 ·exact h.done
 split
 ·exact h.done
 exact h.of rfl
theorem ShN.handle (h:ShN m):ShN (m.handle n l):=by
 unfold Cl.handle
 split
 ·exact h.serve
 split
 ·unfold Cl.offered
  split
  ·exact h
  split
  ·exact h.of rfl
  split
  ·exact h
  exact h.of rfl
 split
 ·unfold Cl.caught
  split
  ·exact h
  split
  ·exact h
  split
  ·exact ShN.part (h.of rfl)
  split
  ·exact h
  exact h.of rfl
 split
 ·unfold Cl.got
  split
  ·exact h
  split
  ·exact h.of rfl
  split
  ·exact h
  split
  ·exact h
  exact h.of rfl
 unfold Cl.learnt
 split
 ·exact h.of rfl
 split
 ·exact h.of rfl
 exact h.of rfl
theorem ShN.drain: ∀ (ls:List iD) {m:Cl},ShN m->ShN (Cl.drain n ls m)
 | [],m,h=>h
 | l::r,m,h=>by
  rw [Cl.drain];have h1:ShN ((m.put n { m.ah n with inbox:=r }).handle n l):=ShN.handle (h.of rfl)
  split
  ·exact ShN.drain r h1
  exact h1
theorem ShN.zn {p:fM} (h:ShN m):ShN (m.zn n p):=by
 cases p with
 | serve q evs op num a=>exact ShN.done (h.of rfl)
 | begun q b=>exact h.of rfl
 | got q b last=>
  unfold Cl.zn;dsimp only
  split
  ·exact ShN.tell (h.of rfl)
  exact h.of rfl
 | iN q b a=>exact ShN.part (h.of rfl)
 | forget q b=>exact h.of rfl
theorem ShN.step (h:ShN m):ShN (m.step n):=by
 unfold Cl.step
 split
 ·exact h
 split
 ·exact ShN.zn (h.of rfl)
 split
 ·exact (h.drain _).of rfl
 exact h.drain _
theorem ShN.come (h:ShN m):ShN (m.come l):=by
 unfold Cl.come
 split
 ·exact h.of rfl
 split
 ·split<;>exact h.of rfl
 split
 ·exact h.of rfl
 exact h
theorem ShN.comes: ∀ (ls:List iD) {m:Cl},ShN m->ShN (ls.foldl Cl.come m)
 | [],_,h=>h
 | _::ls,_,h=>ShN.comes ls h.come
theorem ShN.recover (h:ShN m):ShN (m.recover n q):=(Fx m n q h).2.2
theorem ShN.woken {bs:Nat->bK}: ∀ (ql:List Nat) {m:Cl},ShN m->ShN (Cl.woken n bs ql m)
 | [],_,h=>h
 | q::r,m,h=>by
  rw [Cl.woken]
  split
  ·exact ShN.woken r h
  exact ShN.woken r (ShN.tell ((h.recover (n:=n) (q:=q)).of rfl))
theorem ShN.act {a:Ac} (h:ShN m):ShN (m.act a):=by
 unfold Cl.act
 split
 ·unfold Cl.make
  split
  ·exact h
  split
  ·exact h
  split
  ·exact h
  exact IX (l:=[]) h
 split
 ·exact h.of rfl
 split
 ·exact h.step
 split
 ·unfold Cl.pick
  split
  ·exact h
  dsimp only
  split
  ·refine ShN.come ?_
   split
   ·exact h
   exact h.of rfl
  split
  ·exact h
  exact h.of rfl
 split
 ·exact ShN.comes _ (h.of rfl)
 split
 ·unfold Cl.crash
  split
  ·exact h.of rfl
  exact h
 split
 ·unfold Cl.start
  split
  ·exact h
  split
  ·exact h
  exact ShN.woken _ (h.of rfl)
 unfold Cl.move
 split
 ·exact h
 split
 ·exact h.of rfl
 exact h
end
section
variable {m:Cl} {n:Nat} {X:Nd} {l:iD} {PW:Pl×Int}
theorem afq (h:l.tg= -1):m.come l={ m with bL:=m.bL++[l.bL] }:=if_pos h
theorem q9 (h:l.tg= -2) (hP:bn (eT m.off l) l.q=PW) (h2:PW.2=0):m.come l={ m with off:=eT m.off l,fly:=m.fly++[nR l.fr l.q PW.1] }:=by
 unfold Cl.come;rw [if_neg (by omega),if_pos h,hP,if_pos h2]
theorem ru (h:l.tg= -2) (hP:bn (eT m.off l) l.q=PW) (h2: ¬ PW.2=0):m.come l={ m with off:=eT m.off l }:=by
 unfold Cl.come;rw [if_neg (by omega),if_pos h,hP,if_neg h2]
theorem abg (h:l.tg=((n:Nat):Int)) (hX:m.ah n=X) (hu:X.up=true):m.come l=m.put n (X.box (X.inbox++[l])):=by
 subst hX;unfold Cl.come;rw [if_neg (by omega),if_neg (by omega),h,Int.toNat_natCast,if_pos hu];rfl
theorem abh (h:l.tg=((n:Nat):Int)) (hX:m.ah n=X) (hu:X.up=false):m.come l=m:=by
 subst hX;unfold Cl.come;rw [if_neg (by omega),if_neg (by omega),h,Int.toNat_natCast,if_neg (by rw [hu];simp)]
theorem dN.auQ {K:CK} {L:List Fact} {c:Nat} {z:NX} {A:Option Addr} {x:LX} (h:dN K L n X z) (hx:Qh L x):dN K L n (X.box (X.inbox++[x.l])) { z with iA:=A,ic:=c,ix:=z.ix++[x] }:=
 ⟨h.Qi,h.R7,h.xL,by rw [List.map_append,h.ixm];rfl,λu hu=>(List.mem_append.1 hu).elim (h.ixo u) λe=>by rw [List.mem_singleton] at e;subst e;exact hx,h.tL⟩
end
theorem Da {K:CK} {B n kn kw:Nat} {w0 w:World} {fs:List Fact} {m:Cl} {H:List LX} {x:LX} (hn:n<5) (hkn:K.nb n=kn) (bY:K.wb=kw) (hu:Uk B w0) (hB1:m.fly.length<=1000000000) (hB2:m.bL.length<=1000000000000) (hB3:(m.ah n).inbox.length<=1000000000) (HW:Wd K B w0 w fs m (x::H)) (qo:x.l.tg= -1\/x.l.tg= -2\/x.l.tg=((n:Nat):Int)):
    Calls Tryz.prog 30 #[.pointer (some ⟨kw,0,none⟩),.agg (LX.row x)] w (λe w'=>e= .returned (.tuple #[])/\Wd K B w0 w' fs (m.come x.l) H):=by
 obtain ⟨R,G,S0⟩:=HW.open hn;have hfl:R.fx.length=m.fly.length:=by rw [<-G.fly,List.length_map]
 have NG:=G.kW n hn;obtain ⟨X,hX⟩: ∃ X,m.ah n=X:=⟨_,rfl⟩;obtain ⟨z,hz⟩: ∃ z,R.nx n=z:=⟨_,rfl⟩;rw [hX,hz] at S0 NG;have hL: ∀ f∈R.L,f∈fV K R m fs n:=λf h=>List.mem_append_right _ (List.mem_append_right _ h);obtain ⟨rr,hrr⟩: ∃ r,fV K R m fs n=r:=⟨_,rfl⟩;rw [hrr] at S0 hL;have S:St B w0 w ((.blk kn (dF n X.up (.slice z.tA X.data.length z.tc) X.syn (.slice (some ⟨z.bb,0,none⟩) 4 4) X.hints X.sure (.slice z.iA z.ix.length z.ic) (z.pv) X.turn) 87)::(.own 43 6 (.slice (some ⟨z.bb,0,none⟩) 4 4) 4 ((z.bx).flatMap BX.cells))::(fL z.iA z.ix z.ic)::(bW kw (.slice R.nA 5 R.nc) m.off R.fA R.fx R.fc m.shown R.sA m.aV R.sc R.tA m.bL R.tc m.calls)::(oL R.fA R.fx R.fc)::(oS R.sA m.aV R.sc)::(oT R.tA m.bL R.tc)::rr):=by subst hkn;subst bY;exact S0
 clear S0 HW;have hlen:=(S.own 1 rfl).1;rw [iG (sz:=6) (λ_=>rfl)] at hlen;obtain ⟨ab,ao,qw⟩:=Bj G.arr S (memT 7 rfl hL);have harr:=G.arr;rw [qw] at S harr;have aHP:z.ix.length<=1000000000:=by have:=congrArg List.length NG.ixm;rw [List.length_map] at this;rw [hX] at hB3;omega
 refine gB 106 Tryz.func30 ?_;refine cw [0,1] ?_;refine zN 2 ?_;refine iK S ?_;intro b1 w2 S3;refine zN 4 ?_
 rcases qo with qo | qo | qo
 ·refine zN 8 ?_;have S4:=S3.drew;refine fC 14 10 S4 [7] ?_;iterate 5 refine gM ?_
  refine gk (v:= .slice R.tA m.bL.length R.tc) 5 rfl (St.del 7 S4) (λ_ aAU=>(aj rfl rfl (ay Tryz.underlying38 rfl (St.cl 4 aAU rfl aug)))) ?_;refine gM ?_;refine gk (v:= .agg #[iV x.l.bL.num,iV x.l.bL.ans.code,iV x.l.bL.ans.dZ,iV x.l.bL.ans.hno,iV x.l.bL.ans.body,iV x.l.bL.pl.node,iV x.l.bL.pl.epoch]) 7 rfl (St.del 7 S4) (λ_ amr=>(aj rfl rfl (aA (cs:=[iV x.l.bL.num,iV x.l.bL.ans.code,iV x.l.bL.ans.dZ,iV x.l.bL.ans.hno,iV x.l.bL.ans.body,iV x.l.bL.pl.node,iV x.l.bL.pl.epoch]) Tryz.underlying103 rfl abQ rfl (St.rg 0 amr rfl (aoT))))) ?_;refine eP (m:=5) (r:=8) (by kernel_rfl) ?_;refine lM (i:=8) rfl rfl (V:=λb=> .slice (some ⟨b,0,none⟩) 1 1) (row:= #[iV x.l.bL.num,iV x.l.bL.ans.code,iV x.l.bL.ans.dZ,iV x.l.bL.ans.hno,iV x.l.bL.ans.body,iV x.l.bL.pl.node,iV x.l.bL.pl.epoch]) (t:=103) S4 (wn rfl) rfl rfl (aU (vs:=[(0,.agg #[iV x.l.bL.num,iV x.l.bL.ans.code,iV x.l.bL.ans.dZ,iV x.l.bL.ans.hno,iV x.l.bL.ans.body,iV x.l.bL.pl.node,iV x.l.bL.pl.epoch])]) rfl ⟨rfl,rfl,trivial⟩ (by kernel_rfl)) ?_;intro b13 Jk gI;refine gM ?_;refine eP (m:=4) (r:=9) (by kernel_rfl) ?_;refine kK (i:=9) rfl rfl (news:=[iV x.l.bL.num,iV x.l.bL.ans.code,iV x.l.bL.ans.dZ,iV x.l.bL.ans.hno,iV x.l.bL.ans.body,iV x.l.bL.pl.node,iV x.l.bL.pl.epoch]) (xs':=(m.bL++[x.l.bL]).flatMap wE.cells) 8 gI (wn rfl) rfl rfl rfl rfl rfl rfl (St.lV (xs:=[iV x.l.bL.num,iV x.l.bL.ans.code,iV x.l.bL.ans.dZ,iV x.l.bL.ans.hno,iV x.l.bL.ans.body,iV x.l.bL.pl.node,iV x.l.bL.pl.epoch]) 0 gI rfl rfl rfl) Tryz.underlying38 anN rfl (by decide) (bX rfl) (by simp only [maxLen];omega) (by omega) (jM (enc:=wE.cells) rfl rfl) ?_;intro A16 c17 Ng ay6 ay7 lX;refine gM ?_;refine eD (by kernel_rfl) rfl rfl rfl ?_;refine zN 3 ?_;refine jq 5 lX ajN ?_ (hs:=by exact aui);intro w22 nU;refine zQ ?_;refine iU ?_;refine bT (l':=[]) trivial (iw (aY (rs:=[]) (vs:=[]) rfl trivial ?_));have jw:=nU.aR [1,0];rw [<-qw] at jw;have UN:m.bL.length+1=(m.bL++[x.l.bL]).length:=by simp
  rw [UN] at jw;rw [afq qo];exact ⟨rfl,Wd.dJ (X':=X) (z':=z) (Ls:=[]) (fA:=R.fA) (fc:=R.fc) (fx:=R.fx) (sA:=R.sA) (sc:=R.sc) (tA:=A16) (tc:=c17) hkn bY hrr G hn jw NG.more (λu hu=> .inl hu) (aI hX).symm G.fly.symm mH⟩
 ·refine zN 22 ?_;by_cases uo:0<=x.l.nd
  ·refine zN 4 ?_;obtain ⟨FD,Jr⟩: ∃ r,zZ m.off x.l.q x.l.ep x.l.nd=r:=⟨_,rfl⟩;have HF:=λw h=>Wj m.off x.l.q x.l.ep x.l.nd w h;rw [Jr] at HF;refine zQ ?_;have lS:=S3.drew;refine aG 17 lS [] ?_;refine aJ 3 ?_;refine ak (v:= .agg ((m.off.cells).toArray)) 3 rfl lS (λ_ aaw=>(aj rfl rfl (aA (cs:=(m.off.cells)) Tryz.underlying35 rfl oN rfl (St.rg 4 aaw rfl (xK))))) ?_;refine aJ 6 ?_;refine gZ (n:=6) (r:=10) (s:=14) (by kernel_rfl) ?_ ?_
   ·refine iY 10 rfl ajP (HF _ (Uk.nw hu lS)) ?_;rintro _ Zw ⟨rfl,aAV⟩;refine ⟨_,rfl,?_⟩;have tJ:=lS.on aAV;refine aJ 4 ?_;refine aW 14 ?_;refine kS 14 rfl tJ afT ?_;intro b43 Rt oD;refine bZ ?_;refine aW 15 ?_;refine Zd 15 rfl 0 oD oN ?_ (h1:=vF _);intro Yi yU;refine aJ 3 ?_;refine zN 4 ?_;by_cases h49:FD.2=0
    ·refine zN 9 ?_;refine jq 5 yU oN ?_ (h1:=vF _) (hs:=by exact alM);intro Uu tZ;refine zN 2 ?_;obtain ⟨PW,vI⟩: ∃ r,bn FD.1 x.l.q=r:=⟨_,rfl⟩;have HQ:=λw h=>mP FD.1 x.l.q w h;rw [vI] at HQ;refine zQ ?_;have oZ:=tZ.drew;refine aG 13 oZ [] ?_;refine aJ 3 ?_;refine ak (v:= .agg (((FD.1).cells).toArray)) 3 rfl oZ (λ_ aas=>(aj rfl rfl (aA (cs:=((FD.1).cells)) Tryz.underlying35 rfl oN rfl (St.rg 5 aas rfl (xK))))) ?_;refine aJ 2 ?_;refine gZ (n:=6) (r:=6) (s:=10) (by kernel_rfl) ?_ ?_
     ·refine iY 6 rfl yO (HQ _ (Uk.nw hu oZ)) ?_;rintro _ w59 ⟨rfl,aAW⟩;refine ⟨_,rfl,?_⟩;have Uv:=oZ.on aAW;refine aJ 4 ?_;refine aW 10 ?_;refine kS 10 rfl Uv D7 ?_;intro b65 Ut uf;refine bZ ?_;refine aW 11 ?_;refine sn 11 rfl 0 uf iM ?_;intro w68 vC;refine aJ 3 ?_;refine zN 4 ?_;by_cases h71:PW.2=0
      ·refine zN 14 ?_;refine vv (v:= .agg #[iV 6,iV (-2),iV x.l.fr,iV ((x.l.q:Nat):Int),iV PW.1.epoch,iV 0,iV PW.1.node,iV 0,iV 0,iV 0,iV 0,iV 0,iV 0,.slice none 0 0,.bool false,iV 0,iV 0,iV 0,iV 0,iV 0,iV 0,iV 0,iV 0]) gD ?_;have ES:=vC.dU [7,7];refine dI xX (gP (x:=⟨nR x.l.fr x.l.q PW.1,none,0⟩) ES (by omega)) ?_;rintro _ w77 ⟨rfl,A73,c74,aAX,asc,EZ⟩;refine ⟨_,rfl,?_⟩;refine zQ ?_;refine bT (l':=[]) trivial (iw (aY (rs:=[]) (vs:=[]) rfl trivial ?_));have AQ:=EZ.aR [4,3,2];have AY:=AQ.dU [6,6,3,3,6,6,6];rw [<-qw] at AY;have kM:eT m.off x.l=FD.1:=by
        unfold eT;rw [Jr,if_pos (by omega)]
       rw [q9 (PW:=PW) qo (by rw [kM];exact vI) (by assumption),kM];exact ⟨rfl,Wd.dJ (X':=X) (z':=z) (Ls:=[]) (fA:=A73) (fc:=c74) (fx:=aAX) (sA:=R.sA) (sc:=R.sc) (tA:=R.tA) (tc:=R.tc) hkn bY hrr G hn AY NG.more (by rw [asc];exact nZ (iQ rfl)) (aI hX).symm (by rw [asc,List.map_append,G.fly];rfl) mH⟩
      refine zN 7 ?_;have sF:=vC.aR [2,1,0];rw [<-qw] at sF;have kM:eT m.off x.l=FD.1:=by
       unfold eT;rw [Jr,if_pos (by omega)]
      rw [ru (PW:=PW) qo (by rw [kM];exact vI) (by assumption),kM];exact ⟨rfl,Wd.dJ (X':=X) (z':=z) (Ls:=[]) (fA:=R.fA) (fc:=R.fc) (fx:=R.fx) (sA:=R.sA) (sc:=R.sc) (tA:=R.tA) (tc:=R.tc) hkn bY hrr G hn sF NG.more (λu hu=> .inl hu) (aI hX).symm G.fly.symm mH⟩
     refine kS 10 rfl oZ D7 ?_;intro b82 w83 EX;refine bZ ?_;refine aW 6 ?_;refine iY 6 rfl yO (HQ _ (Uk.nw hu EX)) ?_;rintro _ w85 ⟨rfl,aq9⟩;refine ⟨_,rfl,?_⟩;have AZ:=EX.on aq9;refine aJ 4 ?_;refine aW 11 ?_;refine sn 11 rfl 0 AZ iM ?_;intro w91 yS;refine aJ 3 ?_;refine zN 4 ?_;by_cases h94:PW.2=0
     ·refine zN 14 ?_;refine vv (v:= .agg #[iV 6,iV (-2),iV x.l.fr,iV ((x.l.q:Nat):Int),iV PW.1.epoch,iV 0,iV PW.1.node,iV 0,iV 0,iV 0,iV 0,iV 0,iV 0,.slice none 0 0,.bool false,iV 0,iV 0,iV 0,iV 0,iV 0,iV 0,iV 0,iV 0]) gD ?_;have Du:=yS.dU [7,7];refine dI xX (gP (x:=⟨nR x.l.fr x.l.q PW.1,none,0⟩) Du (by omega)) ?_;rintro _ af7 ⟨rfl,A96,c97,aAY,ase,vU⟩;refine ⟨_,rfl,?_⟩;refine zQ ?_;refine bT (l':=[]) trivial (iw (aY (rs:=[]) (vs:=[]) rfl trivial ?_));have sO:=vU.aR [4,3,2];have qI:=sO.dU [6,6,3,3,6,6,6];rw [<-qw] at qI;have kM:eT m.off x.l=FD.1:=by
       unfold eT;rw [Jr,if_pos (by omega)]
      rw [q9 (PW:=PW) qo (by rw [kM];exact vI) (by assumption),kM];exact ⟨rfl,Wd.dJ (X':=X) (z':=z) (Ls:=[]) (fA:=A96) (fc:=c97) (fx:=aAY) (sA:=R.sA) (sc:=R.sc) (tA:=R.tA) (tc:=R.tc) hkn bY hrr G hn qI NG.more (by rw [ase];exact nZ (iQ rfl)) (aI hX).symm (by rw [ase,List.map_append,G.fly];rfl) mH⟩
     refine zN 7 ?_;have yw:=yS.aR [2,1,0];rw [<-qw] at yw;have kM:eT m.off x.l=FD.1:=by
      unfold eT;rw [Jr,if_pos (by omega)]
     rw [ru (PW:=PW) qo (by rw [kM];exact vI) (by assumption),kM];exact ⟨rfl,Wd.dJ (X':=X) (z':=z) (Ls:=[]) (fA:=R.fA) (fc:=R.fc) (fx:=R.fx) (sA:=R.sA) (sc:=R.sc) (tA:=R.tA) (tc:=R.tc) hkn bY hrr G hn yw NG.more (λu hu=> .inl hu) (aI hX).symm G.fly.symm mH⟩
    refine zN 6 ?_;obtain ⟨PW,vI⟩: ∃ r,bn m.off x.l.q=r:=⟨_,rfl⟩;have HQ:=λw h=>mP m.off x.l.q w h;rw [vI] at HQ;refine mq (X:=Nat) (λxv=>[(0,.pointer (some ⟨kw,0,none⟩)),(3,.pointer (some ⟨b1,0,none⟩)),(6,.pointer (some ⟨xv,0,none⟩)),(7,iV PW.2)]) (λxv wr=>St B w0 wr ((.blk xv #[iV PW.1.node,iV PW.1.epoch] 32)::(.blk b43 (((FD.1).cells).toArray) 35)::(.blk b1 (LX.row x) 105)::(.blk kn (dF n X.up (.slice z.tA X.data.length z.tc) X.syn (.slice (some ⟨z.bb,0,none⟩) 4 4) X.hints X.sure (.slice z.iA z.ix.length z.ic) (z.pv) X.turn) 87)::(.own 43 6 (.slice (some ⟨z.bb,0,none⟩) 4 4) 4 ((z.bx).flatMap BX.cells))::(fL z.iA z.ix z.ic)::(bW kw (.slice (some ⟨ab,ao,none⟩) 5 R.nc) m.off R.fA R.fx R.fc m.shown R.sA m.aV R.sc R.tA m.bL R.tc m.calls)::(oL R.fA R.fx R.fc)::(oS R.sA m.aV R.sc)::(oT R.tA m.bL R.tc)::rr)) ?_ ?_
    ·have rW:=yU.drew;refine aG 13 rW [] ?_;refine aJ 3 ?_;refine ak (v:= .agg ((m.off.cells).toArray)) 3 rfl rW (λ_ auR=>(aj rfl rfl (aA (cs:=(m.off.cells)) Tryz.underlying35 rfl oN rfl (St.rg 5 auR rfl (xK))))) ?_;refine aJ 2 ?_;refine gZ (n:=6) (r:=6) (s:=10) (by kernel_rfl) ?_ ?_
     ·refine iY 6 rfl yO (HQ _ (Uk.nw hu rW)) ?_;rintro _ ZR ⟨rfl,auS⟩;refine ⟨_,rfl,?_⟩;have ng:=rW.on auS;refine aJ 4 ?_;refine aW 10 ?_;refine kS 10 rfl ng D7 ?_;intro aAZ alx oF;refine bZ ?_;refine aW 11 ?_;refine sn 11 rfl 0 oF iM ?_;intro aag Ci;refine aJ 3 ?_;refine dD aAZ ?_ ⟨rfl,rfl,rfl,rfl,trivial⟩;exact Ci
     refine kS 10 rfl rW D7 ?_;intro aA0 alH xI;refine bZ ?_;refine aW 6 ?_;refine iY 6 rfl yO (HQ _ (Uk.nw hu xI)) ?_;rintro _ Zk ⟨rfl,ab8⟩;refine ⟨_,rfl,?_⟩;have xZ:=xI.on ab8;refine aJ 4 ?_;refine aW 11 ?_;refine sn 11 rfl 0 xZ iM ?_;intro Vh um;refine aJ 3 ?_;refine dD aA0 ?_ ⟨rfl,rfl,rfl,rfl,trivial⟩;exact um
    rintro aA1 apX D9
    try dsimp only at D9
    refine bC (l':=[(0,.pointer (some ⟨kw,0,none⟩)),(3,.pointer (some ⟨b1,0,none⟩)),(6,.pointer (some ⟨aA1,0,none⟩)),(7,iV PW.2)]) ⟨rfl,rfl,rfl,rfl,trivial⟩ (aQ (aC (vm ?_)));by_cases aHQ:PW.2=0
    ·refine zN 14 ?_;refine vv (v:= .agg #[iV 6,iV (-2),iV x.l.fr,iV ((x.l.q:Nat):Int),iV PW.1.epoch,iV 0,iV PW.1.node,iV 0,iV 0,iV 0,iV 0,iV 0,iV 0,.slice none 0 0,.bool false,iV 0,iV 0,iV 0,iV 0,iV 0,iV 0,iV 0,iV 0]) gD ?_;have yc:=D9.dU [7,7];refine dI xX (gP (x:=⟨nR x.l.fr x.l.q PW.1,none,0⟩) yc (by omega)) ?_;rintro _ ayt ⟨rfl,af0,af2,auT,akL,QF⟩;refine ⟨_,rfl,?_⟩;refine zQ ?_;refine bT (l':=[]) trivial (iw (aY (rs:=[]) (vs:=[]) rfl trivial ?_));have QG:=QF.aR [4,3,2];have Cc:=QG.dU [6,6,3,3,6,6,6];rw [<-qw] at Cc;have kM:eT m.off x.l=m.off:=by
      unfold eT
      first | rw [Jr,if_neg (by omega)] | rw [if_neg (by omega)]
     rw [q9 (PW:=PW) qo (by rw [kM];exact vI) (by assumption),kM];exact ⟨rfl,Wd.dJ (X':=X) (z':=z) (Ls:=[]) (fA:=af0) (fc:=af2) (fx:=auT) (sA:=R.sA) (sc:=R.sc) (tA:=R.tA) (tc:=R.tc) hkn bY hrr G hn Cc NG.more (by rw [akL];exact nZ (iQ rfl)) (aI hX).symm (by rw [akL,List.map_append,G.fly];rfl) mH⟩
    refine zN 7 ?_;have zC:=D9.aR [2,1,0];rw [<-qw] at zC;have kM:eT m.off x.l=m.off:=by
     unfold eT
     first | rw [Jr,if_neg (by omega)] | rw [if_neg (by omega)]
    rw [ru (PW:=PW) qo (by rw [kM];exact vI) (by assumption),kM];exact ⟨rfl,Wd.dJ (X':=X) (z':=z) (Ls:=[]) (fA:=R.fA) (fc:=R.fc) (fx:=R.fx) (sA:=R.sA) (sc:=R.sc) (tA:=R.tA) (tc:=R.tc) hkn bY hrr G hn zC NG.more (λu hu=> .inl hu) (aI hX).symm G.fly.symm mH⟩
   refine kS 14 rfl lS afT ?_;intro asf aAK Iy;refine bZ ?_;refine aW 10 ?_;refine iY 10 rfl ajP (HF _ (Uk.nw hu Iy)) ?_;rintro _ arA ⟨rfl,auU⟩;refine ⟨_,rfl,?_⟩;have uY:=Iy.on auU;refine aJ 4 ?_;refine aW 15 ?_;refine Zd 15 rfl 0 uY oN ?_ (h1:=vF _);intro aqs Ny;refine aJ 3 ?_;refine zN 4 ?_;by_cases aHR:FD.2=0
   ·refine zN 9 ?_;refine jq 5 Ny oN ?_ (h1:=vF _) (hs:=by exact alM);intro aHS Vr;refine zN 2 ?_;obtain ⟨PW,vI⟩: ∃ r,bn FD.1 x.l.q=r:=⟨_,rfl⟩;have HQ:=λw h=>mP FD.1 x.l.q w h;rw [vI] at HQ;refine mq (X:=Nat) (λxv=>[(0,.pointer (some ⟨kw,0,none⟩)),(3,.pointer (some ⟨b1,0,none⟩)),(6,.pointer (some ⟨xv,0,none⟩)),(7,iV PW.2)]) (λxv wr=>St B w0 wr ((.blk xv #[iV PW.1.node,iV PW.1.epoch] 32)::(.blk asf (((FD.1).cells).toArray) 35)::(.blk b1 (LX.row x) 105)::(.blk kn (dF n X.up (.slice z.tA X.data.length z.tc) X.syn (.slice (some ⟨z.bb,0,none⟩) 4 4) X.hints X.sure (.slice z.iA z.ix.length z.ic) (z.pv) X.turn) 87)::(.own 43 6 (.slice (some ⟨z.bb,0,none⟩) 4 4) 4 ((z.bx).flatMap BX.cells))::(fL z.iA z.ix z.ic)::(bW kw (.slice (some ⟨ab,ao,none⟩) 5 R.nc) FD.1 R.fA R.fx R.fc m.shown R.sA m.aV R.sc R.tA m.bL R.tc m.calls)::(oL R.fA R.fx R.fc)::(oS R.sA m.aV R.sc)::(oT R.tA m.bL R.tc)::rr)) ?_ ?_
    ·have yj:=Vr.drew;refine aG 13 yj [] ?_;refine aJ 3 ?_;refine ak (v:= .agg (((FD.1).cells).toArray)) 3 rfl yj (λ_ auV=>(aj rfl rfl (aA (cs:=((FD.1).cells)) Tryz.underlying35 rfl oN rfl (St.rg 5 auV rfl (xK))))) ?_;refine aJ 2 ?_;refine gZ (n:=6) (r:=6) (s:=10) (by kernel_rfl) ?_ ?_
     ·refine iY 6 rfl yO (HQ _ (Uk.nw hu yj)) ?_;rintro _ alY ⟨rfl,auW⟩;refine ⟨_,rfl,?_⟩;have Vs:=yj.on auW;refine aJ 4 ?_;refine aW 10 ?_;refine kS 10 rfl Vs D7 ?_;intro aaT azL Nz;refine bZ ?_;refine aW 11 ?_;refine sn 11 rfl 0 Nz iM ?_;intro aHT aA2;refine aJ 3 ?_;refine dD aaT ?_ ⟨rfl,rfl,rfl,rfl,trivial⟩;exact aA2
     refine kS 10 rfl yj D7 ?_;intro aA3 aHU asg;refine bZ ?_;refine aW 6 ?_;refine iY 6 rfl yO (HQ _ (Uk.nw hu asg)) ?_;rintro _ aHV ⟨rfl,auX⟩;refine ⟨_,rfl,?_⟩;have ami:=asg.on auX;refine aJ 4 ?_;refine aW 11 ?_;refine sn 11 rfl 0 ami iM ?_;intro azO Q0;refine aJ 3 ?_;refine dD aA3 ?_ ⟨rfl,rfl,rfl,rfl,trivial⟩;exact Q0
    rintro aA4 aHW abj
    try dsimp only at abj
    refine bC (l':=[(0,.pointer (some ⟨kw,0,none⟩)),(3,.pointer (some ⟨b1,0,none⟩)),(6,.pointer (some ⟨aA4,0,none⟩)),(7,iV PW.2)]) ⟨rfl,rfl,rfl,rfl,trivial⟩ (aQ (aC (vm ?_)));by_cases aHX:PW.2=0
    ·refine zN 14 ?_;refine vv (v:= .agg #[iV 6,iV (-2),iV x.l.fr,iV ((x.l.q:Nat):Int),iV PW.1.epoch,iV 0,iV PW.1.node,iV 0,iV 0,iV 0,iV 0,iV 0,iV 0,.slice none 0 0,.bool false,iV 0,iV 0,iV 0,iV 0,iV 0,iV 0,iV 0,iV 0]) gD ?_;have aA5:=abj.dU [7,7];refine dI xX (gP (x:=⟨nR x.l.fr x.l.q PW.1,none,0⟩) aA5 (by omega)) ?_;rintro _ aHY ⟨rfl,aA6,aA7,auY,akM,aA8⟩;refine ⟨_,rfl,?_⟩;refine zQ ?_;refine bT (l':=[]) trivial (iw (aY (rs:=[]) (vs:=[]) rfl trivial ?_));have agr:=aA8.aR [4,3,2];have ash:=agr.dU [6,6,3,3,6,6,6];rw [<-qw] at ash;have kM:eT m.off x.l=FD.1:=by
      unfold eT;rw [Jr,if_pos (by omega)]
     rw [q9 (PW:=PW) qo (by rw [kM];exact vI) (by assumption),kM];exact ⟨rfl,Wd.dJ (X':=X) (z':=z) (Ls:=[]) (fA:=aA6) (fc:=aA7) (fx:=auY) (sA:=R.sA) (sc:=R.sc) (tA:=R.tA) (tc:=R.tc) hkn bY hrr G hn ash NG.more (by rw [akM];exact nZ (iQ rfl)) (aI hX).symm (by rw [akM,List.map_append,G.fly];rfl) mH⟩
    refine zN 7 ?_;have asi:=abj.aR [2,1,0];rw [<-qw] at asi;have kM:eT m.off x.l=FD.1:=by
     unfold eT;rw [Jr,if_pos (by omega)]
    rw [ru (PW:=PW) qo (by rw [kM];exact vI) (by assumption),kM];exact ⟨rfl,Wd.dJ (X':=X) (z':=z) (Ls:=[]) (fA:=R.fA) (fc:=R.fc) (fx:=R.fx) (sA:=R.sA) (sc:=R.sc) (tA:=R.tA) (tc:=R.tc) hkn bY hrr G hn asi NG.more (λu hu=> .inl hu) (aI hX).symm G.fly.symm mH⟩
   refine zN 6 ?_;obtain ⟨PW,vI⟩: ∃ r,bn m.off x.l.q=r:=⟨_,rfl⟩;have HQ:=λw h=>mP m.off x.l.q w h;rw [vI] at HQ;refine mq (X:=Nat) (λxv=>[(0,.pointer (some ⟨kw,0,none⟩)),(3,.pointer (some ⟨b1,0,none⟩)),(6,.pointer (some ⟨xv,0,none⟩)),(7,iV PW.2)]) (λxv wr=>St B w0 wr ((.blk xv #[iV PW.1.node,iV PW.1.epoch] 32)::(.blk asf (((FD.1).cells).toArray) 35)::(.blk b1 (LX.row x) 105)::(.blk kn (dF n X.up (.slice z.tA X.data.length z.tc) X.syn (.slice (some ⟨z.bb,0,none⟩) 4 4) X.hints X.sure (.slice z.iA z.ix.length z.ic) (z.pv) X.turn) 87)::(.own 43 6 (.slice (some ⟨z.bb,0,none⟩) 4 4) 4 ((z.bx).flatMap BX.cells))::(fL z.iA z.ix z.ic)::(bW kw (.slice (some ⟨ab,ao,none⟩) 5 R.nc) m.off R.fA R.fx R.fc m.shown R.sA m.aV R.sc R.tA m.bL R.tc m.calls)::(oL R.fA R.fx R.fc)::(oS R.sA m.aV R.sc)::(oT R.tA m.bL R.tc)::rr)) ?_ ?_
   ·have abk:=Ny.drew;refine aG 13 abk [] ?_;refine aJ 3 ?_;refine ak (v:= .agg ((m.off.cells).toArray)) 3 rfl abk (λ_ auZ=>(aj rfl rfl (aA (cs:=(m.off.cells)) Tryz.underlying35 rfl oN rfl (St.rg 5 auZ rfl (xK))))) ?_;refine aJ 2 ?_;refine gZ (n:=6) (r:=6) (s:=10) (by kernel_rfl) ?_ ?_
    ·refine iY 6 rfl yO (HQ _ (Uk.nw hu abk)) ?_;rintro _ aHZ ⟨rfl,au0⟩;refine ⟨_,rfl,?_⟩;have aA9:=abk.on au0;refine aJ 4 ?_;refine aW 10 ?_;refine kS 10 rfl aA9 D7 ?_;intro aBa aH0 ams;refine bZ ?_;refine aW 11 ?_;refine sn 11 rfl 0 ams iM ?_;intro aH1 abl;refine aJ 3 ?_;refine dD aBa ?_ ⟨rfl,rfl,rfl,rfl,trivial⟩;exact abl
    refine kS 10 rfl abk D7 ?_;intro aBb aH2 asj;refine bZ ?_;refine aW 6 ?_;refine iY 6 rfl yO (HQ _ (Uk.nw hu asj)) ?_;rintro _ aH3 ⟨rfl,au1⟩;refine ⟨_,rfl,?_⟩;have aBd:=asj.on au1;refine aJ 4 ?_;refine aW 11 ?_;refine sn 11 rfl 0 aBd iM ?_;intro aH4 amt;refine aJ 3 ?_;refine dD aBb ?_ ⟨rfl,rfl,rfl,rfl,trivial⟩;exact amt
   rintro aBe aH5 amu
   try dsimp only at amu
   refine bC (l':=[(0,.pointer (some ⟨kw,0,none⟩)),(3,.pointer (some ⟨b1,0,none⟩)),(6,.pointer (some ⟨aBe,0,none⟩)),(7,iV PW.2)]) ⟨rfl,rfl,rfl,rfl,trivial⟩ (aQ (aC (vm ?_)));by_cases aH6:PW.2=0
   ·refine zN 14 ?_;refine vv (v:= .agg #[iV 6,iV (-2),iV x.l.fr,iV ((x.l.q:Nat):Int),iV PW.1.epoch,iV 0,iV PW.1.node,iV 0,iV 0,iV 0,iV 0,iV 0,iV 0,.slice none 0 0,.bool false,iV 0,iV 0,iV 0,iV 0,iV 0,iV 0,iV 0,iV 0]) gD ?_;have aBf:=amu.dU [7,7];refine dI xX (gP (x:=⟨nR x.l.fr x.l.q PW.1,none,0⟩) aBf (by omega)) ?_;rintro _ aH7 ⟨rfl,aBg,aBh,au2,akN,ags⟩;refine ⟨_,rfl,?_⟩;refine zQ ?_;refine bT (l':=[]) trivial (iw (aY (rs:=[]) (vs:=[]) rfl trivial ?_));have aBi:=ags.aR [4,3,2];have asl:=aBi.dU [6,6,3,3,6,6,6];rw [<-qw] at asl;have kM:eT m.off x.l=m.off:=by
     unfold eT
     first | rw [Jr,if_neg (by omega)] | rw [if_neg (by omega)]
    rw [q9 (PW:=PW) qo (by rw [kM];exact vI) (by assumption),kM];exact ⟨rfl,Wd.dJ (X':=X) (z':=z) (Ls:=[]) (fA:=aBg) (fc:=aBh) (fx:=au2) (sA:=R.sA) (sc:=R.sc) (tA:=R.tA) (tc:=R.tc) hkn bY hrr G hn asl NG.more (by rw [akN];exact nZ (iQ rfl)) (aI hX).symm (by rw [akN,List.map_append,G.fly];rfl) mH⟩
   refine zN 7 ?_;have asn:=amu.aR [2,1,0];rw [<-qw] at asn;have kM:eT m.off x.l=m.off:=by
    unfold eT
    first | rw [Jr,if_neg (by omega)] | rw [if_neg (by omega)]
   rw [ru (PW:=PW) qo (by rw [kM];exact vI) (by assumption),kM];exact ⟨rfl,Wd.dJ (X':=X) (z':=z) (Ls:=[]) (fA:=R.fA) (fc:=R.fc) (fx:=R.fx) (sA:=R.sA) (sc:=R.sc) (tA:=R.tA) (tc:=R.tc) hkn bY hrr G hn asn NG.more (λu hu=> .inl hu) (aI hX).symm G.fly.symm mH⟩
  refine zN 6 ?_;obtain ⟨PW,vI⟩: ∃ r,bn m.off x.l.q=r:=⟨_,rfl⟩;have HQ:=λw h=>mP m.off x.l.q w h;rw [vI] at HQ;refine mq (X:=Nat) (λxv=>[(0,.pointer (some ⟨kw,0,none⟩)),(3,.pointer (some ⟨b1,0,none⟩)),(6,.pointer (some ⟨xv,0,none⟩)),(7,iV PW.2)]) (λxv wr=>St B w0 wr ((.blk xv #[iV PW.1.node,iV PW.1.epoch] 32)::(.blk b1 (LX.row x) 105)::(.blk kn (dF n X.up (.slice z.tA X.data.length z.tc) X.syn (.slice (some ⟨z.bb,0,none⟩) 4 4) X.hints X.sure (.slice z.iA z.ix.length z.ic) (z.pv) X.turn) 87)::(.own 43 6 (.slice (some ⟨z.bb,0,none⟩) 4 4) 4 ((z.bx).flatMap BX.cells))::(fL z.iA z.ix z.ic)::(bW kw (.slice (some ⟨ab,ao,none⟩) 5 R.nc) m.off R.fA R.fx R.fc m.shown R.sA m.aV R.sc R.tA m.bL R.tc m.calls)::(oL R.fA R.fx R.fc)::(oS R.sA m.aV R.sc)::(oT R.tA m.bL R.tc)::rr)) ?_ ?_
  ·have abm:=S3.drew;refine aG 13 abm [] ?_;refine aJ 3 ?_;refine ak (v:= .agg ((m.off.cells).toArray)) 3 rfl abm (λ_ au3=>(aj rfl rfl (aA (cs:=(m.off.cells)) Tryz.underlying35 rfl oN rfl (St.rg 4 au3 rfl (xK))))) ?_;refine aJ 2 ?_;refine gZ (n:=6) (r:=6) (s:=10) (by kernel_rfl) ?_ ?_
   ·refine iY 6 rfl yO (HQ _ (Uk.nw hu abm)) ?_;rintro _ aH8 ⟨rfl,au4⟩;refine ⟨_,rfl,?_⟩;have aBj:=abm.on au4;refine aJ 4 ?_;refine aW 10 ?_;refine kS 10 rfl aBj D7 ?_;intro aBk aH9 aBl;refine bZ ?_;refine aW 11 ?_;refine sn 11 rfl 0 aBl iM ?_;intro aIa aBm;refine aJ 3 ?_;refine dD aBk ?_ ⟨rfl,rfl,rfl,rfl,trivial⟩;exact aBm
   refine kS 10 rfl abm D7 ?_;intro aBn aIb aso;refine bZ ?_;refine aW 6 ?_;refine iY 6 rfl yO (HQ _ (Uk.nw hu aso)) ?_;rintro _ aIc ⟨rfl,au5⟩;refine ⟨_,rfl,?_⟩;have aBo:=aso.on au5;refine aJ 4 ?_;refine aW 11 ?_;refine sn 11 rfl 0 aBo iM ?_;intro aId aBp;refine aJ 3 ?_;refine dD aBn ?_ ⟨rfl,rfl,rfl,rfl,trivial⟩;exact aBp
  rintro aBq aIe amv
  try dsimp only at amv
  refine bC (l':=[(0,.pointer (some ⟨kw,0,none⟩)),(3,.pointer (some ⟨b1,0,none⟩)),(6,.pointer (some ⟨aBq,0,none⟩)),(7,iV PW.2)]) ⟨rfl,rfl,rfl,rfl,trivial⟩ (aQ (aC (vm ?_)));by_cases aIf:PW.2=0
  ·refine zN 14 ?_;refine vv (v:= .agg #[iV 6,iV (-2),iV x.l.fr,iV ((x.l.q:Nat):Int),iV PW.1.epoch,iV 0,iV PW.1.node,iV 0,iV 0,iV 0,iV 0,iV 0,iV 0,.slice none 0 0,.bool false,iV 0,iV 0,iV 0,iV 0,iV 0,iV 0,iV 0,iV 0]) gD ?_;have aBr:=amv.dU [6,6];refine dI xX (gP (x:=⟨nR x.l.fr x.l.q PW.1,none,0⟩) aBr (by omega)) ?_;rintro _ aIg ⟨rfl,aBs,aBt,au6,akO,aBu⟩;refine ⟨_,rfl,?_⟩;refine zQ ?_;refine bT (l':=[]) trivial (iw (aY (rs:=[]) (vs:=[]) rfl trivial ?_));have agt:=aBu.aR [3,2];have asq:=agt.dU [6,6,3,3,6,6,6];rw [<-qw] at asq;have kM:eT m.off x.l=m.off:=by
    unfold eT
    first | rw [Jr,if_neg (by omega)] | rw [if_neg (by omega)]
   rw [q9 (PW:=PW) qo (by rw [kM];exact vI) (by assumption),kM];exact ⟨rfl,Wd.dJ (X':=X) (z':=z) (Ls:=[]) (fA:=aBs) (fc:=aBt) (fx:=au6) (sA:=R.sA) (sc:=R.sc) (tA:=R.tA) (tc:=R.tc) hkn bY hrr G hn asq NG.more (by rw [akO];exact nZ (iQ rfl)) (aI hX).symm (by rw [akO,List.map_append,G.fly];rfl) mH⟩
  refine zN 7 ?_;have asr:=amv.aR [1,0];rw [<-qw] at asr;have kM:eT m.off x.l=m.off:=by
   unfold eT
   first | rw [Jr,if_neg (by omega)] | rw [if_neg (by omega)]
  rw [ru (PW:=PW) qo (by rw [kM];exact vI) (by assumption),kM];exact ⟨rfl,Wd.dJ (X':=X) (z':=z) (Ls:=[]) (fA:=R.fA) (fc:=R.fc) (fx:=R.fx) (sA:=R.sA) (sc:=R.sc) (tA:=R.tA) (tc:=R.tc) hkn bY hrr G hn asr NG.more (λu hu=> .inl hu) (aI hX).symm G.fly.symm mH⟩
 refine zN 18 ?_;refine fu S3 mixed (by kernel_rfl) ?_;refine zN 3 ?_;refine uv (v:= .slice (some ⟨ab,ao,none⟩) 5 R.nc) (λ_ au7=>(aj rfl rfl (ay Tryz.underlying72 rfl (St.cl 4 au7 rfl zG)))) ?_;refine zQ ?_;refine uv (v:=iV ((n:Nat):Int)) (λ_ au8=>(qo▸(aj rfl rfl (ay Tryz.underlying3 rfl (St.cl 0 au8 rfl rfl))))) ?_;refine uv (λ_ _=>jh n) ?_;refine uv (v:= .pointer (some ⟨kn,0,none⟩)) (λ_ au9=>(aj rfl rfl (ay Tryz.underlying80 rfl (hkn▸vH harr hn au9 (memT 8 rfl hL))))) ?_;refine zN 4 ?_;refine eO λaIh asu=>?_;refine zQ ?_
 cases aEb:(X.up)
 ·refine bC (l':=[(0,.pointer (some ⟨kw,0,none⟩)),(3,.pointer (some ⟨b1,0,none⟩)),(76,.bool false)]) ⟨rfl,rfl,rfl,trivial⟩ (lG rfl (qz (iw (aY (rs:=[]) (vs:=[]) rfl trivial ?_))));have asv:=asu.aR [0];rw [<-qw] at asv;rw [abh qo hX (by assumption)];exact ⟨rfl,Wd.dJ (X':=X) (z':=z) (Ls:=[]) (fA:=R.fA) (fc:=R.fc) (fx:=R.fx) (sA:=R.sA) (sc:=R.sc) (tA:=R.tA) (tc:=R.tc) hkn bY hrr G hn asv NG.more (λu hu=> .inl hu) (aI hX).symm G.fly.symm mH⟩
 refine bC (l':=[(0,.pointer (some ⟨kw,0,none⟩)),(3,.pointer (some ⟨b1,0,none⟩)),(76,.bool true)]) ⟨rfl,rfl,rfl,trivial⟩ (lF rfl (aQ (fu asu mixed (by kernel_rfl) ?_)));refine zN 3 ?_;refine uv (v:= .slice (some ⟨ab,ao,none⟩) 5 R.nc) (λ_ ava=>(aj rfl rfl (ay Tryz.underlying72 rfl (St.cl 4 ava rfl zG)))) ?_;refine zQ ?_;refine uv (v:=iV ((n:Nat):Int)) (λ_ avb=>(qo▸(aj rfl rfl (ay Tryz.underlying3 rfl (St.cl 0 avb rfl rfl))))) ?_;refine uv (λ_ _=>jh n) ?_;refine uv (v:= .pointer (some ⟨kn,0,none⟩)) (λ_ avc=>(aj rfl rfl (ay Tryz.underlying80 rfl (hkn▸vH harr hn avc (memT 8 rfl hL))))) ?_;refine zQ ?_;refine eO λaIi aBv=>?_;refine zQ ?_;have agu:=aBv.drew;refine fC 11 8 agu [3] ?_;iterate 6 refine gM ?_
 refine eP (m:=4) (r:=6) (by kernel_rfl) ?_;refine lM (i:=6) rfl rfl (V:=λb=> .slice (some ⟨b,0,none⟩) 1 1) (row:=LX.row x) (t:=105) agu (wn rfl) rfl rfl (aU (vs:=[(0,.agg (LX.row x))]) rfl ⟨rfl,rfl,trivial⟩ (by kernel_rfl)) ?_;intro aIj aIk asw;refine gM ?_;refine eP (m:=3) (r:=7) (by kernel_rfl) ?_;refine Za (i:=7) rfl rfl (news:=(LX.cells x)) (xs':=(z.ix++[x]).flatMap LX.cells) 4 asw (wn rfl) rfl rfl rfl rfl rfl rfl (St.lV (xs:=(LX.cells x)) 0 asw rfl rfl rfl) (by decide) Tryz.underlying73 XT rfl (by decide) (Dx _) (by simp only [maxLen];omega) (by omega) (jM (enc:=LX.cells) rfl rfl) ?_;intro asx asy aIl aBw;refine gM ?_;refine eD (by kernel_rfl) rfl rfl rfl ?_;refine zN 2 ?_;refine jq (row':=dF n X.up (.slice z.tA X.data.length z.tc) X.syn (.slice (some ⟨z.bb,0,none⟩) 4 4) X.hints X.sure (.slice asx (z.ix.length+1) asy) (z.pv) X.turn) 2 aBw BJ ?_;intro aIm aBx;refine zQ ?_;refine iU ?_;refine bT (l':=[]) trivial (iw (aY (rs:=[]) (vs:=[]) rfl trivial ?_));have amw:=aBx.aR [1,0];rw [<-qw] at amw;have UN:z.ix.length+1=(z.ix++[x]).length:=by simp
 rw [UN] at amw;rw [abg qo hX (by assumption)];exact ⟨rfl,Wd.dJ (X':=X.box (X.inbox++[x.l])) (z':={ z with iA:=asx,ic:=asy,ix:=z.ix++[x] }) (Ls:=[]) (fA:=R.fA) (fc:=R.fc) (fx:=R.fx) (sA:=R.sA) (sc:=R.sc) (tA:=R.tA) (tc:=R.tc) hkn bY hrr G hn amw (NG.more.auQ (by rw [List.append_nil];exact G.hld x (List.mem_cons_self ..))) (λu hu=> .inl hu) rfl G.fly.symm mH⟩
set_option linter.unnecessarySimpa false
theorem UO {α β:Type} (f:α->β): ∀ (l:List α) (i:Nat),(l.eraseIdx i).map f=(l.map f).eraseIdx i
 | [],_=>rfl
 | _::_,0=>rfl
 | a::l,i+1=>congrArg (f a:: ·) (UO f l i)
theorem abn {m:Cl} {at_:Nat} {c s:Bool} (h:m.fly.length=0):m.pick at_ c s=m:=by
 unfold Cl.pick;rw [List.length_eq_zero_iff.1 h];rfl
theorem Bo {m:Cl} {at_:Nat} {c s:Bool} {l:iD} (h:m.fly[at_ % m.fly.length]? =some l):m.pick at_ c s=if c=true then (if s=true then m else { m with fly:=m.fly.eraseIdx (at_ % m.fly.length) }).come l else if s=true then m else { m with fly:=m.fly.eraseIdx (at_ % m.fly.length) }:=by
 unfold Cl.pick;rw [h]
theorem Wd.drop1 {K:CK} {B:Nat} {w0 w:World} {fs:List Fact} {m:Cl} {x:LX} {H:List LX} (h:Wd K B w0 w fs m (x::H)):Wd K B w0 w fs m H:=by
 obtain ⟨R,G,S⟩:=h;exact ⟨R,⟨G.fly,G.flo,G.kW,G.arr,λu hu=>G.hld u (List.mem_cons_of_mem _ hu)⟩,S⟩
theorem Db {K:CK} {B n kn kw:Nat} {w0 w:World} {fs:List Fact} {m:Cl} {H:List LX} {at_:Nat} {comes stays:Bool} (hn:n<5) (hkn:K.nb n=kn) (bY:K.wb=kw) (hu:Uk B w0) (hB1:m.fly.length<=1000000000) (hB2:m.bL.length<=1000000000000) (hib: ∀ j,j<5->(m.ah j).inbox.length<=1000000000) (HW:Wd K B w0 w fs m H) (qo: ∀ l∈m.fly,∃ j,j<5/\(l.tg= -1\/l.tg= -2\/l.tg=((j:Nat):Int))):
    Calls Tryz.prog 29 #[pV kw 0,iV ((at_:Nat):Int),.bool comes,.bool stays] w (λe w'=>e= .returned (.tuple #[])/\Wd K B w0 w' fs (m.pick at_ comes stays) H):=by
 obtain ⟨R,G,S0⟩:=HW.open hn;have hfl:R.fx.length=m.fly.length:=by rw [<-G.fly,List.length_map]
 have NG:=G.kW n hn;obtain ⟨X,hX⟩: ∃ X,m.ah n=X:=⟨_,rfl⟩;obtain ⟨z,hz⟩: ∃ z,R.nx n=z:=⟨_,rfl⟩;rw [hX,hz] at S0 NG;have hL: ∀ f∈R.L,f∈fV K R m fs n:=λf h=>List.mem_append_right _ (List.mem_append_right _ h);obtain ⟨rr,hrr⟩: ∃ r,fV K R m fs n=r:=⟨_,rfl⟩;rw [hrr] at S0 hL;have S:St B w0 w ((bN kn n X.up z.tA X.data z.tc X.syn z.bb X.hints X.sure z.iA z.ix z.ic z.pv X.turn)::(oB z.bb z.bx)::(fL z.iA z.ix z.ic)::(bW kw (.slice R.nA 5 R.nc) m.off R.fA R.fx R.fc m.shown R.sA m.aV R.sc R.tA m.bL R.tc m.calls)::(oL R.fA R.fx R.fc)::(oS R.sA m.aV R.sc)::(oT R.tA m.bL R.tc)::rr):=by subst hkn;subst bY;exact S0
 clear S0;have hlen:=(S.own 1 rfl).1;rw [iG (sz:=6) (λ_=>rfl)] at hlen;refine gB 47 Tryz.func29 ?_;refine cw [0,1,2,3] ?_;refine zN 6 ?_;refine vv (aj rfl rfl (ay Tryz.underlying73 rfl (St.cl 3 S rfl QX))) ?_;refine zQ ?_;by_cases h1:((R.fx.length:Nat):Int)=0
 ·refine zN 7 ?_;rw [abn (by rw [<-hfl];omega)];exact ⟨rfl,HW⟩
 refine zN 7 ?_;obtain ⟨g2,hfA⟩:=D6 (S.own 4 rfl) (by omega);have S2:=S;rw [hfA] at S2;obtain ⟨i,hit⟩: ∃ i,i=at_ % R.fx.length:=⟨_,rfl⟩;have hi:i<R.fx.length:=by rw [hit];exact Nat.mod_lt _ (by omega)
 obtain ⟨x,hx⟩: ∃ x,R.fx[i]? =some x:=⟨_,List.getElem?_eq_getElem hi⟩;have hxm:x∈R.fx:=List.mem_of_getElem? hx;have hfi:m.fly[at_ % m.fly.length]? =some x.l:=by rw [<-hfl,<-hit,<-G.fly,List.getElem?_map,hx];rfl
 refine zN 5 ?_;refine vv (aj rfl rfl (ay Tryz.underlying73 rfl (St.cl 3 S2 rfl QX))) ?_;refine zQ ?_;refine vv (v:=iV ((i:Nat):Int)) (aK rfl rfl rfl (UJ hit (by omega))) ?_;refine zN 8 ?_;refine vv (aj rfl rfl (ay Tryz.underlying73 rfl (St.cl 3 S2 rfl QX))) ?_;refine zQ ?_;refine vv (jh i) ?_;refine vv (aj rfl rfl (aA (cs:=LX.cells x) Tryz.underlying105 rfl xA rfl (Rd.vM (St.ord 4 S2 rfl) (λ_ _ h=>bg (enc:=LX.cells) (sz:=23) (λ_=>rfl) hx h)))) ?_;refine fF S2 abX ?_;intro b3 w4 S5;refine sa 0 S5 xA ?_;intro w6 S7;refine zN 6 ?_
 cases hb8:(stays)
 ·refine zN 9 ?_;refine vv (aj rfl rfl (ay Tryz.underlying73 rfl (St.cl 4 S7 rfl QX))) ?_;refine zN 2 ?_;refine vv (v:=iV ((i+1:Nat):Int)) gN ?_;have S9:=S7.dU [7,7,7,7,7,7,7];refine dI as9 (SN g2 R.fx.length R.fc i _ (R.fx.flatMap LX.cells) _ (S9.own 4 rfl) (aiV _) hi) ?_;rintro _ Yo ⟨rfl,aBy,asz⟩;refine ⟨_,rfl,?_⟩;rw [JC (enc:=LX.cells) (sz:=23) (λ_=>rfl)] at asz;have qj:=S9.abU 4 rfl aBy asz;refine zN 2 ?_;refine jq 3 qj BJ ?_ (hs:=by exact alL);intro Jk gI;refine zN 7 ?_
  cases aIn:(comes)
  ·refine bC (l':=[(0,pV kw 0),(9,pV b3 0),(43,.bool false)]) ⟨rfl,rfl,rfl,trivial⟩ (lG rfl (qz (aY (rs:=[]) (vs:=[]) rfl trivial ?_)));rw [Bo hfi];have UN:R.fx.length-1=(R.fx.eraseIdx i).length:=by rw [List.length_eraseIdx,if_pos hi]
   rw [UN] at gI;have amx:=Wd.dJ (X':=X) (z':=z) (m':={ m with fly:=m.fly.eraseIdx (at_ % m.fly.length) }) (H':=x::H) (Ls:=[.blk b3 #[iV x.l.kd,iV x.l.fr,iV x.l.tg,iV ((x.l.q:Nat):Int),iV x.l.ep,iV x.l.at_,iV x.l.nd,iV x.l.op.kind,iV x.l.op.producer,iV x.l.op.id,iV x.l.op.body,iV x.l.op.aO,iV x.l.op.hno,.slice x.A x.l.evs.length x.c,.bool x.l.last,iV x.l.num,iV x.l.bL.num,iV x.l.bL.ans.code,iV x.l.bL.ans.dZ,iV x.l.bL.ans.hno,iV x.l.bL.ans.body,iV x.l.bL.pl.node,iV x.l.bL.pl.epoch] 105]) (fA:=(aD g2 0)) (fc:=R.fc) (fx:=R.fx.eraseIdx i) (sA:=R.sA) (sc:=R.sc) (tA:=R.tA) (tc:=R.tc) hkn bY hrr G hn gI NG.more (λu hu=> .inl (List.mem_of_mem_eraseIdx hu)) (aI hX).symm (by rw [UO,G.fly,hit,hfl]) (λu hu=>(List.mem_cons.1 hu).elim (λe=> .inr (e▸((G.flo x hxm).mono λf hf=>List.mem_append_left _ hf))) .inl);exact ⟨rfl,by simpa [*] using Wd.drop1 amx⟩
  refine bC (l':=[(0,pV kw 0),(9,pV b3 0),(43,.bool true)]) ⟨rfl,rfl,rfl,trivial⟩ (lF rfl (aC (vm ?_)));refine zQ ?_;have UN:R.fx.length-1=(R.fx.eraseIdx i).length:=by rw [List.length_eraseIdx,if_pos hi]
  rw [UN] at gI;have aBz:=Wd.dJ (X':=X) (z':=z) (m':={ m with fly:=m.fly.eraseIdx (at_ % m.fly.length) }) (H':=x::H) (Ls:=[.blk b3 #[iV x.l.kd,iV x.l.fr,iV x.l.tg,iV ((x.l.q:Nat):Int),iV x.l.ep,iV x.l.at_,iV x.l.nd,iV x.l.op.kind,iV x.l.op.producer,iV x.l.op.id,iV x.l.op.body,iV x.l.op.aO,iV x.l.op.hno,.slice x.A x.l.evs.length x.c,.bool x.l.last,iV x.l.num,iV x.l.bL.num,iV x.l.bL.ans.code,iV x.l.bL.ans.dZ,iV x.l.bL.ans.hno,iV x.l.bL.ans.body,iV x.l.bL.pl.node,iV x.l.bL.pl.epoch] 105]) (fA:=(aD g2 0)) (fc:=R.fc) (fx:=R.fx.eraseIdx i) (sA:=R.sA) (sc:=R.sc) (tA:=R.tA) (tc:=R.tc) hkn bY hrr G hn gI NG.more (λu hu=> .inl (List.mem_of_mem_eraseIdx hu)) (aI hX).symm (by rw [UO,G.fly,hit,hfl]) (λu hu=>(List.mem_cons.1 hu).elim (λe=> .inr (e▸((G.flo x hxm).mono λf hf=>List.mem_append_left _ hf))) .inl);obtain ⟨nn,hnn,htt⟩: ∃ nn,nn<5/\(x.l.tg= -1\/x.l.tg= -2\/x.l.tg=((nn:Nat):Int)):=qo x.l (by rw [<-G.fly];exact List.mem_map_of_mem hxm);refine dI ak9 (Da (m:={ m with fly:=m.fly.eraseIdx (at_ % m.fly.length) }) (x:=x) hnn rfl bY hu (by first | omega | (show (m.fly.eraseIdx _).length<=_;have:=List.length_eraseIdx_le m.fly (at_ % m.fly.length);omega)) hB2 (hib nn hnn) aBz htt) ?_;rintro _ FX ⟨rfl,aBA⟩;refine ⟨_,rfl,?_⟩;refine zQ ?_;refine bT (l':=[]) trivial (aY (rs:=[]) (vs:=[]) rfl trivial ?_);rw [Bo hfi];exact ⟨rfl,by simpa [*] using aBA⟩
 refine zN 11 ?_
 cases aIo:(comes)
 ·refine bC (l':=[(0,pV kw 0),(9,pV b3 0),(43,.bool false)]) ⟨rfl,rfl,rfl,trivial⟩ (lG rfl (qz (aY (rs:=[]) (vs:=[]) rfl trivial ?_)));rw [Bo hfi];have iR:=S7.dU [7,7,7,7,7,7,7];rw [<-hfA] at iR;have aBB:=Wd.dJ (X':=X) (z':=z) (m':=m) (H':=x::H) (Ls:=[.blk b3 #[iV x.l.kd,iV x.l.fr,iV x.l.tg,iV ((x.l.q:Nat):Int),iV x.l.ep,iV x.l.at_,iV x.l.nd,iV x.l.op.kind,iV x.l.op.producer,iV x.l.op.id,iV x.l.op.body,iV x.l.op.aO,iV x.l.op.hno,.slice x.A x.l.evs.length x.c,.bool x.l.last,iV x.l.num,iV x.l.bL.num,iV x.l.bL.ans.code,iV x.l.bL.ans.dZ,iV x.l.bL.ans.hno,iV x.l.bL.ans.body,iV x.l.bL.pl.node,iV x.l.bL.pl.epoch] 105]) (fA:=R.fA) (fc:=R.fc) (fx:=R.fx) (sA:=R.sA) (sc:=R.sc) (tA:=R.tA) (tc:=R.tc) hkn bY hrr G hn iR NG.more (λu hu=> .inl hu) (aI hX).symm G.fly.symm (λu hu=>(List.mem_cons.1 hu).elim (λe=> .inr (e▸((G.flo x hxm).mono λf hf=>List.mem_append_left _ hf))) .inl);exact ⟨rfl,by simpa [*] using Wd.drop1 aBB⟩
 refine bC (l':=[(0,pV kw 0),(9,pV b3 0),(43,.bool true)]) ⟨rfl,rfl,rfl,trivial⟩ (lF rfl (aC (vm ?_)));refine zQ ?_;have jw:=S7.dU [7,7,7,7,7,7,7];rw [<-hfA] at jw;have aBC:=Wd.dJ (X':=X) (z':=z) (m':=m) (H':=x::H) (Ls:=[.blk b3 #[iV x.l.kd,iV x.l.fr,iV x.l.tg,iV ((x.l.q:Nat):Int),iV x.l.ep,iV x.l.at_,iV x.l.nd,iV x.l.op.kind,iV x.l.op.producer,iV x.l.op.id,iV x.l.op.body,iV x.l.op.aO,iV x.l.op.hno,.slice x.A x.l.evs.length x.c,.bool x.l.last,iV x.l.num,iV x.l.bL.num,iV x.l.bL.ans.code,iV x.l.bL.ans.dZ,iV x.l.bL.ans.hno,iV x.l.bL.ans.body,iV x.l.bL.pl.node,iV x.l.bL.pl.epoch] 105]) (fA:=R.fA) (fc:=R.fc) (fx:=R.fx) (sA:=R.sA) (sc:=R.sc) (tA:=R.tA) (tc:=R.tc) hkn bY hrr G hn jw NG.more (λu hu=> .inl hu) (aI hX).symm G.fly.symm (λu hu=>(List.mem_cons.1 hu).elim (λe=> .inr (e▸((G.flo x hxm).mono λf hf=>List.mem_append_left _ hf))) .inl);obtain ⟨nn,hnn,htt⟩: ∃ nn,nn<5/\(x.l.tg= -1\/x.l.tg= -2\/x.l.tg=((nn:Nat):Int)):=qo x.l (by rw [<-G.fly];exact List.mem_map_of_mem hxm);refine dI ak9 (Da (m:=m) (x:=x) hnn rfl bY hu (by first | omega | (show (m.fly.eraseIdx _).length<=_;have:=List.length_eraseIdx_le m.fly (at_ % m.fly.length);omega)) hB2 (hib nn hnn) aBC htt) ?_;rintro _ Nh ⟨rfl,aBD⟩;refine ⟨_,rfl,?_⟩;refine zQ ?_;refine bT (l':=[]) trivial (aY (rs:=[]) (vs:=[]) rfl trivial ?_);rw [Bo hfi];exact ⟨rfl,by simpa [*] using aBD⟩
theorem abo {calls:Nat} {nv fv sv tv x:Value} {d:Dir} {sh:Nat->Nat->Int×Int}:cK (kL nv d fv sh sv tv calls) 0 [x]=kL x d fv sh sv tv calls:=H6 (Nat.le_of_ble_eq_true rfl) rfl
theorem St.flip {B:Nat} {w0 w:World} {gs fs:List Fact} (S:St B w0 w (gs++fs)):St B w0 w (fs++gs):=S.perm List.perm_append_comm
def akP (a b c d e:Nat):Nat->Nat
 | 0=>a
 | 1=>b
 | 2=>c
 | 3=>d
 | _=>e
theorem Od {L:List Fact}: ∀ y∈sw,Bb L y:=λy hy=>by
 have:y=P9:=by simpa [sw] using hy
 subst this;exact ⟨Ro.none_,Nat.zero_le _⟩
theorem TY {B:Nat} {w0 w:World} {fs:List Fact} (S:St B w0 w fs) (hu:Uk B w0):
    Calls Tryz.prog 18 #[] w (λe w'=> ∃ K:CK,e= .returned (pV K.wb 0)/\Wd K B w0 w' fs fG []):=by
 refine gB 27 Tryz.func18 ?_;refine bC (l':=[]) trivial (aQ (aC (va ?_)));refine zN 4 ?_;refine dI axc (Wx _ (Uk.nw hu S)) ?_;rintro _ w1 ⟨rfl,hb3⟩;refine ⟨_,rfl,?_⟩;have S2:=S.on hb3;refine vv (v:= .agg (kL (.slice none 0 0) (⟨nowhere,nowhere,nowhere,nowhere⟩:Dir) (.slice none 0 0) (λ_ _=>(0,0)) (.slice none 0 0) (.slice none 0 0) 0)) gD ?_;refine iK S2 ?_;intro b4 w5 S6;refine zN 10 ?_;refine Ob (l5 (aQ (aC (vv BU ?_))));refine zN 17 ?_;refine vv (v:= .agg (dF 0 true (.slice none 0 0) 0 (.slice none 0 0) (λ_=>(⟨0,0⟩:Pl)) (λ_=>false) (.slice none 0 0) (.nilFunc) 0)) gD ?_;refine iK S6 ?_;intro b7 w8 S9;refine zN 6 ?_;refine dI QA (mV S9 hu) ?_;rintro _ Jd ⟨rfl,aBE,mF⟩;refine ⟨_,rfl,?_⟩;refine zN 2 ?_;have wu:=mF.nil 80 1;refine zN 5 ?_;refine vv (aj rfl rfl (ay Tryz.underlying72 rfl (St.cl 3 wu rfl zG))) ?_;refine zQ ?_;refine bsI wu ?_;intro b14 G8 kQ;refine dY (news:=[pV b7 0]) (xs':=[gL b7]) 1 kQ (wn rfl) rfl rfl rfl rfl rfl rfl (St.lV (xs:=[pV b7 0]) 0 kQ rfl rfl rfl) Tryz.underlying72 Dn rfl (by decide) (bX rfl) (by simp only [maxLen];omega) (by omega) rfl ?_;intro Me c18 FX hc21 aIp lQ;refine zN 2 ?_;refine jq 4 lQ EN ?_ (hs:=by exact abo);intro Jg jw;refine zN 4 ?_;refine vv (v:=iV 1) gN ?_;refine zN 2 ?_;refine pR (l5 (aQ (aC (vv BU ?_))));refine zN 17 ?_;refine vv (v:= .agg (dF 1 true (.slice none 0 0) 0 (.slice none 0 0) (λ_=>(⟨0,0⟩:Pl)) (λ_=>false) (.slice none 0 0) (.nilFunc) 0)) gD ?_;refine iK jw ?_;intro Rs Nh tF;refine zN 6 ?_;refine dI QA (mV tF hu) ?_;rintro _ Zz ⟨rfl,aBF,sH⟩;refine ⟨_,rfl,?_⟩;refine zN 7 ?_;refine vv (aj rfl rfl (ay Tryz.underlying72 rfl (St.cl 6 sH rfl zG))) ?_;refine zQ ?_;refine bsI sH ?_;intro b31 w32 qm;refine dY (news:=[pV Rs 0]) (xs':=[gL b7,gL Rs]) 4 qm (wn rfl) rfl rfl rfl rfl rfl rfl (St.lV (xs:=[pV Rs 0]) 0 qm rfl rfl rfl) Tryz.underlying72 Dn rfl (by decide) (bX rfl) (by simp only [maxLen];omega) (by omega) rfl ?_;intro A34 c35 w36 hc38 azb lY;refine zN 2 ?_;refine jq 7 lY EN ?_ (hs:=by exact abo);intro w40 Je;refine zN 4 ?_;refine vv (v:=iV 2) gN ?_;refine zN 2 ?_;refine pR (l5 (aQ (aC (vv BU ?_))));refine zN 17 ?_;refine vv (v:= .agg (dF 2 true (.slice none 0 0) 0 (.slice none 0 0) (λ_=>(⟨0,0⟩:Pl)) (λ_=>false) (.slice none 0 0) (.nilFunc) 0)) gD ?_;refine iK Je ?_;intro YA w43 EU;refine zN 6 ?_;refine dI QA (mV EU hu) ?_;rintro _ Yi ⟨rfl,aBG,yU⟩;refine ⟨_,rfl,?_⟩;refine zN 7 ?_;refine vv (aj rfl rfl (ay Tryz.underlying72 rfl (St.cl 9 yU rfl zG))) ?_;refine zQ ?_;refine bsI yU ?_;intro Yr Zh vO;refine dY (news:=[pV YA 0]) (xs':=[gL b7,gL Rs,gL YA]) 7 vO (wn rfl) rfl rfl rfl rfl rfl rfl (St.lV (xs:=[pV YA 0]) 0 vO rfl rfl rfl) Tryz.underlying72 Dn rfl (by decide) (bX rfl) (by simp only [maxLen];omega) (by omega) rfl ?_;intro A51 c52 w53 aIq aIr mG;refine zN 2 ?_;refine jq 10 mG EN ?_ (hs:=by exact abo);intro w57 CG;refine zN 4 ?_;refine vv (v:=iV 3) gN ?_;refine zN 2 ?_;refine pR (l5 (aQ (aC (vv BU ?_))));refine zN 17 ?_;refine vv (v:= .agg (dF 3 true (.slice none 0 0) 0 (.slice none 0 0) (λ_=>(⟨0,0⟩:Pl)) (λ_=>false) (.slice none 0 0) (.nilFunc) 0)) gD ?_
 refine iK CG ?_;intro UH Ym EW;refine zN 6 ?_;refine dI QA (mV EW hu) ?_;rintro _ w63 ⟨rfl,aBH,S64⟩;refine ⟨_,rfl,?_⟩;refine zN 7 ?_;refine vv (aj rfl rfl (ay Tryz.underlying72 rfl (St.cl 12 S64 rfl zG))) ?_;refine zQ ?_;refine bsI S64 ?_;intro b65 Ut uf;refine dY (news:=[pV UH 0]) (xs':=[gL b7,gL Rs,gL YA,gL UH]) 10 uf (wn rfl) rfl rfl rfl rfl rfl rfl (St.lV (xs:=[pV UH 0]) 0 uf rfl rfl rfl) Tryz.underlying72 Dn rfl (by decide) (bX rfl) (by simp only [maxLen];omega) (by omega) rfl ?_;intro A68 c69 Zo aIs aIt rE;refine zN 2 ?_;refine jq 13 rE EN ?_ (hs:=by exact abo);intro w74 AL;refine zN 4 ?_;refine vv (v:=iV 4) gN ?_;refine zN 2 ?_;refine pR (l5 (aQ (aC (vv BU ?_))));refine zN 17 ?_;refine vv (v:= .agg (dF 4 true (.slice none 0 0) 0 (.slice none 0 0) (λ_=>(⟨0,0⟩:Pl)) (λ_=>false) (.slice none 0 0) (.nilFunc) 0)) gD ?_;refine iK AL ?_;intro b76 w77 EZ;refine zN 6 ?_;refine dI QA (mV EZ hu) ?_;rintro _ w80 ⟨rfl,aBI,sF⟩;refine ⟨_,rfl,?_⟩;refine zN 7 ?_;refine vv (aj rfl rfl (ay Tryz.underlying72 rfl (St.cl 15 sF rfl zG))) ?_;refine zQ ?_;refine bsI sF ?_;intro b82 w83 EX;refine dY (news:=[pV b76 0]) (xs':=[gL b7,gL Rs,gL YA,gL UH,gL b76]) 13 EX (wn rfl) rfl rfl rfl rfl rfl rfl (St.lV (xs:=[pV b76 0]) 0 EX rfl rfl rfl) Tryz.underlying72 Dn rfl (by decide) (bX rfl) (by simp only [maxLen];omega) (by omega) rfl ?_;intro A85 c86 w87 aIu aIv Jj;refine zN 2 ?_;refine jq 16 Jj EN ?_ (hs:=by exact abo);intro w91 yS;refine zN 4 ?_;refine vv (v:=iV 5) gN ?_;refine zN 2 ?_;refine pR (l5 (aQ (aC (vv ajY ?_))));refine zN 17 ?_;have CF:St _ _ _ (_::_::_::_::_::_::_::_::_::_::_::_::_::_::_::_::_::fs):=yS.bH 13 rfl;have ET:=CF.aR [12,9,6,3,0];have Du:=ET.nil 103 7;have zl:=Du.nil 150 14;have CO:=zl.nil 105 23;have zO:=CO.BL 105 23;have Ur:=zO.BL 105 23;have rV:=Ur.BL 105 23;have vU:=rV.BL 105 23;have sO:=vU.BL 105 23;have qI:=sO.dU [16];have yw:=qI.dU [5];have rW:=yw.dU [10];have Cq:=rW.dU [10];have yu:=Cq.dU [7];have uV:=yu.dU [12];have IE:=uV.dU [12];have pJ:=IE.dU [9];have AO:=pJ.dU [14];have vT:=AO.dU [14];have ng:=vT.dU [11];have xH:=ng.dU [16];have nY:=xH.dU [16];have sP:=nY.dU [13];have zH:=sP.dU [18];have vS:=zH.dU [18];have qJ:=vS.dU [18];have oF:=qJ.dU [18];have zD:=oF.dU [18];have Ci:=zD.dU [19];refine ⟨⟨b4,akP b7 Rs YA UH b76⟩,rfl,⟨λj=>⟨akP aBE aBF aBG aBH aBI j,none,0,sw,none,0,[],.nilFunc⟩,none,0,[],none,0,none,0,A85,c86,[.cu 1 A85 5 [gL b7,gL Rs,gL YA,gL UH,gL b76]]⟩,?_,St.flip (gs:=[_,_,_,_,_,_,_,_,_,_,_,_,_,_,_,_,_,_,_,_]) (fs:=fs) Ci⟩;exact ⟨rfl,λx hx=>(by cases hx),λn hn=>⟨rfl,Od,Ro.none_,rfl,λy hy=>(by cases hy),rfl⟩,Ro.cu (List.mem_singleton.2 rfl),λx hx=>(by cases hx)⟩
section
variable {m mm:Cl} {n q k:Nat} {a:Ac} {PW:Pl×Int} {T S D K:Nat} {x:iD} {fl:List iD}
theorem aji (h:bn m.off q=PW): ∃ nn,nn<5/\(PW.2=0->PW.1.node=((nn:Nat):Int)):=by
 subst h;by_cases c:(bn m.off q).2=0
 ·obtain ⟨h1,h2,_⟩:=uP (λh=>h c);exact ⟨_,h1,λ_=>by omega⟩
 exact ⟨0,by omega,λh=>absurd h c⟩
theorem afr (h:fJ m T S D K):fJ { m with fly:=[] } (T+0) S (D+0) K:=by
 refine ⟨h.kW,λl hl=>(by simp at hl),h.mK,?_,h.aV,h.bL,h.turn,h.calls⟩;have:=h.room;unfold Cl.tot at this⊢;dsimp only [List.length_nil];omega
theorem afs (h:fl[k]? =some x):(fl.drop k).foldl Cl.come mm=(fl.drop (k+1)).foldl Cl.come (mm.come x):=by rw [drop_cons h,List.foldl_cons]
theorem aft (h:a.kd=1) (hn:a.nd=((n:Nat):Int)) (hq:a.qu=((q:Nat):Int)):m.act a=m.make n q:=by
 unfold Cl.act;rw [if_pos h,hn,hq,Int.toNat_natCast,Int.toNat_natCast]
theorem afu (h:a.kd=2) (hq:a.qu=((q:Nat):Int)):m.act a={ m with fly:=m.fly++[Qc a.nd q a.op m.calls],calls:=m.calls+1 }:=by
 unfold Cl.act;rw [if_neg (by omega),if_pos h,hq,Int.toNat_natCast]
theorem afv (h:a.kd=3) (hn:a.nd=((n:Nat):Int)):m.act a=m.step n:=by
 unfold Cl.act;rw [if_neg (by omega),if_neg (by omega),if_pos h,hn,Int.toNat_natCast]
theorem J3 (h:a.kd=4\/a.kd=5\/a.kd=6):m.act a=m.pick a.at_.toNat (decide (a.kd≠5)) (decide (a.kd=6)):=by
 unfold Cl.act;rw [if_neg (by omega),if_neg (by omega),if_neg (by omega),if_pos h]
theorem ajj (h:a.kd=4):m.act a=m.pick a.at_.toNat true false:=by rw [J3 (.inl h),h];rfl
theorem ajk (h:a.kd=5):m.act a=m.pick a.at_.toNat false false:=by rw [J3 (.inr (.inl h)),h];rfl
theorem ajl (h:a.kd=6):m.act a=m.pick a.at_.toNat true true:=by rw [J3 (.inr (.inr h)),h];rfl
theorem ajm (h:a.kd=7):m.act a=m.all:=by
 unfold Cl.act;rw [if_neg (by omega),if_neg (by omega),if_neg (by omega),if_neg (by omega),if_pos h]
theorem Oe (h:a.kd=8) (hn:a.nd=((n:Nat):Int)):m.act a=m.crash n a.kp:=by
 unfold Cl.act;rw [if_neg (by omega),if_neg (by omega),if_neg (by omega),if_neg (by omega),if_neg (by omega),if_pos h,hn,Int.toNat_natCast]
theorem abp (h:a.kd=9) (hn:a.nd=((n:Nat):Int)):m.act a=m.start n:=by
 unfold Cl.act;rw [if_neg (by omega),if_neg (by omega),if_neg (by omega),if_neg (by omega),if_neg (by omega),if_neg (by omega),if_pos h,hn,Int.toNat_natCast]
theorem abq (h:a.kd≠1) (h2:a.kd≠2) (h3:a.kd≠3) (h4:a.kd≠4) (h5:a.kd≠5) (h6:a.kd≠6) (h7:a.kd≠7) (h8:a.kd≠8) (h9:a.kd≠9) (hq:a.qu=((q:Nat):Int)):m.act a=m.move q a.nd:=by
 unfold Cl.act;rw [if_neg h,if_neg h2,if_neg h3,if_neg (by omega),if_neg h7,if_neg h8,if_neg h9,hq,Int.toNat_natCast]
theorem afw (h:(m.ah n).up=true) {kp:Int}:m.crash n kp=m.put n ((m.ah n).crashed kp):=if_pos h
theorem abr (h:(m.ah n).up=false) {kp:Int}:m.crash n kp=m:=by
 unfold Cl.crash;rw [if_neg (by rw [h];simp)]
end
theorem afx {K:CK} {B n kn kw:Nat} {w0 w:World} {fs:List Fact} {m:Cl} {H:List LX} {q k:Nat} {a:Ac} (hn:n<5) (hq:q<4) (hnd:a.nd=((n:Nat):Int)) (hqd:a.qu=((q:Nat):Int)) (hkn:K.nb n=kn) (bY:K.wb=kw) (hu:Uk B w0) (HW:Wd K B w0 w fs m H) (qx:fJ m (4*k) (500000*k) (500000*k) k) (hk:k<=100000) (ha:Lf a) (hsh:ShN m):
    Calls Tryz.prog 19 #[pV kw 0,.agg #[iV a.kd,iV a.nd,iV a.qu,iV a.at_,iV a.kp,iV a.ek,iV a.ep,iV a.ei,iV a.eb,iV a.eh,iV a.en]] w (λe w'=>e= .returned (.tuple #[])/\Wd K B w0 w' fs (m.act a) H):=by
 obtain ⟨R,G,S0⟩:=HW.open hn;have hfl:R.fx.length=m.fly.length:=by rw [<-G.fly,List.length_map]
 have NG:=G.kW n hn;obtain ⟨X,hX⟩: ∃ X,m.ah n=X:=⟨_,rfl⟩;obtain ⟨z,hz⟩: ∃ z,R.nx n=z:=⟨_,rfl⟩;rw [hX,hz] at S0 NG;have hL: ∀ f∈R.L,f∈fV K R m fs n:=λf h=>List.mem_append_right _ (List.mem_append_right _ h);obtain ⟨rr,hrr⟩: ∃ r,fV K R m fs n=r:=⟨_,rfl⟩;rw [hrr] at S0 hL;have S:St B w0 w ((bN kn n X.up z.tA X.data z.tc X.syn z.bb X.hints X.sure z.iA z.ix z.ic z.pv X.turn)::(oB z.bb z.bx)::(fL z.iA z.ix z.ic)::(bW kw (.slice R.nA 5 R.nc) m.off R.fA R.fx R.fc m.shown R.sA m.aV R.sc R.tA m.bL R.tc m.calls)::(oL R.fA R.fx R.fc)::(oS R.sA m.aV R.sc)::(oT R.tA m.bL R.tc)::rr):=by subst hkn;subst bY;exact S0
 clear S0 HW;have hlen:=(S.own 1 rfl).1;rw [iG (sz:=6) (λ_=>rfl)] at hlen;obtain ⟨ab,ao,qw⟩:=Bj G.arr S (memT 7 rfl hL);have harr:=G.arr;rw [qw] at S harr;have hcl:=qx.calls;have aIw:=qx.fl;have amy:a.at_=((a.at_.toNat:Nat):Int):=by have:=ha.at_;omega
 refine gB 144 Tryz.func19 ?_;refine cw [0,1] ?_;refine zN 2 ?_;refine iK S ?_;intro b1 w2 S3;refine zN 11 ?_;by_cases h4:a.kd=1
 ·refine zN 5 ?_;have S5:St B w0 w2 [.blk b1 #[iV a.kd,iV a.nd,iV a.qu,iV a.at_,iV a.kp,iV a.ek,iV a.ep,iV a.ei,iV a.eb,iV a.eh,iV a.en] 57]:=S3.sub (List.Sublist.cons_cons _ (List.nil_sublist _));have UQ:=S3.drew;have S6:=S5.drew;refine aG 12 S6 [] ?_;refine aJ 5 ?_;refine ak (v:=iV ((n:Nat):Int)) 6 rfl S6 (λ_ amr=>(Bl hnd (aj rfl rfl (ay Tryz.underlying3 rfl (St.cl 0 amr rfl rfl))))) ?_;refine bZ ?_;refine ak (v:=iV ((q:Nat):Int)) 10 rfl S6 (λ_ als=>(Bl hqd (aj rfl rfl (ay Tryz.underlying3 rfl (St.cl 0 als rfl rfl))))) ?_;refine aW 4 ?_;refine iC (i:=4) rfl rfl (v:= .slice (aD ab ao) 5 R.nc) (wn rfl) rfl rfl (aj rfl rfl (ay Tryz.underlying72 rfl (St.cl 4 UQ rfl zG))) ?_;refine bZ ?_;refine ak 7 rfl S6 (λ_ _=>jh n) ?_;refine aW 8 ?_;refine iC (i:=8) rfl rfl (v:=pV kn 0) (wn rfl) rfl rfl (aj rfl rfl (ay Tryz.underlying80 rfl (hkn▸vH harr hn UQ (memT 8 rfl hL)))) ?_;refine bZ ?_;refine aW 11 ?_;have kQ:=UQ.dU [7,7,7,7,7,7,7];have jc:=kQ;rw [<-qw] at jc;have amx:=Wd.dJ (m:=m) (m':=m) (H:=H) (H':=H) (fs:=(.blk b1 #[iV a.kd,iV a.nd,iV a.qu,iV a.at_,iV a.kp,iV a.ek,iV a.ep,iV a.ei,iV a.eb,iV a.eh,iV a.en] 57)::fs) (X':=X) (z':=z) (Ls:=[]) (fA:=R.fA) (fc:=R.fc) (fx:=R.fx) (sA:=R.sA) (sc:=R.sc) (tA:=R.tA) (tc:=R.tc) (rr:=(.blk b1 #[iV a.kd,iV a.nd,iV a.qu,iV a.at_,iV a.kp,iV a.ek,iV a.ep,iV a.ei,iV a.eb,iV a.eh,iV a.en] 57)::rr) hkn bY (by rw [<-hrr]<;>rfl) G hn jc NG.more (λu hu=> .inl hu) (aI hX).symm G.fly.symm mI;refine iY 11 rfl axd (Xl hn hkn bY hu (by have:=qx.fl;omega) (by have:=qx.aV;omega) hq amx (qx.kW n hn).nu (λrs d h=>(qx.kW n hn).aAT h)) ?_;rintro _ Ux ⟨rfl,asA⟩;refine ⟨_,rfl,?_⟩;have rG:=Wd.wM (gs:=[.blk b1 #[iV a.kd,iV a.nd,iV a.qu,iV a.at_,iV a.kp,iV a.ek,iV a.ep,iV a.ei,iV a.eb,iV a.eh,iV a.en] 57]) asA;refine aJ 2 ?_;refine bT (l':=[]) trivial (iw (aY (rs:=[]) (vs:=[]) rfl trivial ?_));rw [aft (by assumption) hnd hqd];exact ⟨rfl,(Wd.less (gs:=[.blk b1 #[iV a.kd,iV a.nd,iV a.qu,iV a.at_,iV a.kp,iV a.ek,iV a.ep,iV a.ei,iV a.eb,iV a.eh,iV a.en] 57]) asA)⟩
 refine zN 7 ?_;by_cases h22:a.kd=2
 ·refine zN 6 ?_;have nU:=S3.dU [5,5];have jw:=nU.drew;refine aG 14 jw [1,0] ?_;refine aJ 4 ?_;refine ak (v:=iV ((q:Nat):Int)) 4 rfl (jw.pI [1,0]) (λ_ aa0=>(Bl hqd (aj rfl rfl (ay Tryz.underlying3 rfl (St.cl 0 aa0 rfl rfl))))) ?_;refine bZ ?_;refine ak (v:= .agg #[iV a.ek,iV a.ep,iV a.ei,iV a.eb,iV a.eh,iV a.en]) 6 rfl (jw.pI [1,0]) (λ_ ZE=>(aj rfl rfl (aA (cs:=[iV a.ek,iV a.ep,iV a.ei,iV a.eb,iV a.eh,iV a.en]) Tryz.underlying53 rfl iE rfl (St.rg 0 ZE rfl (nP (x:=5) (m:=6) rfl))))) ?_;refine aJ 4 ?_;refine aW 11 ?_;refine iC (i:=11) rfl rfl (v:=iV ((m.calls:Nat):Int)) (wn rfl) rfl rfl (aj rfl rfl (ay Tryz.underlying3 rfl (St.cl 0 jw rfl akm))) ?_;refine bZ ?_;refine ak (v:= .agg #[iV 0,iV (-1),iV a.nd,iV ((q:Nat):Int),iV 0,iV 0,iV 0,iV a.ek,iV a.ep,iV a.ei,iV a.eb,iV a.eh,iV a.en,.slice none 0 0,.bool false,iV ((m.calls:Nat):Int),iV 0,iV 0,iV 0,iV 0,iV 0,iV 0,iV 0]) 12 rfl (jw.pI [1,0]) (λ_ _=>gD) ?_;refine aW 13 ?_;refine iY 13 rfl xX (gP (x:=⟨Qc a.nd q a.op m.calls,none,0⟩) jw (by have:=qx.fl;omega)) ?_;rintro _ w41 ⟨rfl,A37,c38,ark,alO,pz⟩;refine ⟨_,rfl,?_⟩;refine aJ 2 ?_;refine zN 6 ?_;refine vv (aj rfl rfl (ay Tryz.underlying3 rfl (St.cl 0 pz rfl akm))) ?_;refine vv (v:=iV ((m.calls+1:Nat):Int)) gN ?_;refine zN 3 ?_;refine jq 0 pz mZ ?_ (hs:=by exact auj);intro w43 EU;refine zQ ?_;refine bT (l':=[]) trivial (iw (aY (rs:=[]) (vs:=[]) rfl trivial ?_));rw [afu (by assumption) hqd];subst alO;have oD:=EU.aR [2];have nG:=oD.dU [6,6,3,3,6,6,6];rw [<-qw] at nG;exact ⟨rfl,Wd.dJ (X':=X) (z':=z) (Ls:=[]) (fA:=A37) (fc:=c38) (fx:=R.fx++[(⟨Qc a.nd q a.op m.calls,none,0⟩:LX)]) (sA:=R.sA) (sc:=R.sc) (tA:=R.tA) (tc:=R.tc) hkn bY hrr G hn nG NG.more (nZ (iQ rfl)) (aI hX).symm (by rw [List.map_append,G.fly];rfl) mI⟩
 refine zN 7 ?_;by_cases h47:a.kd=3
 ·refine zN 5 ?_;have wo:St B w0 w2 [.blk b1 #[iV a.kd,iV a.nd,iV a.qu,iV a.at_,iV a.kp,iV a.ek,iV a.ep,iV a.ei,iV a.eb,iV a.eh,iV a.en] 57]:=S3.sub (List.Sublist.cons_cons _ (List.nil_sublist _));have UQ:=S3.drew;have vD:=wo.drew;refine aG 10 vD [] ?_;refine aJ 5 ?_;refine ak (v:=iV ((n:Nat):Int)) 6 rfl vD (λ_ alQ=>(Bl hnd (aj rfl rfl (ay Tryz.underlying3 rfl (St.cl 0 alQ rfl rfl))))) ?_;refine aW 4 ?_;refine iC (i:=4) rfl rfl (v:= .slice (aD ab ao) 5 R.nc) (wn rfl) rfl rfl (aj rfl rfl (ay Tryz.underlying72 rfl (St.cl 4 UQ rfl zG))) ?_;refine bZ ?_;refine ak 7 rfl vD (λ_ _=>jh n) ?_;refine aW 8 ?_;refine iC (i:=8) rfl rfl (v:=pV kn 0) (wn rfl) rfl rfl (aj rfl rfl (ay Tryz.underlying80 rfl (hkn▸vH harr hn UQ (memT 8 rfl hL)))) ?_;refine bZ ?_;refine aW 9 ?_;have qH:=UQ.dU [7,7,7,7,7,7,7];have AX:=qH;rw [<-qw] at AX;have aBJ:=Wd.dJ (m:=m) (m':=m) (H:=H) (H':=H) (fs:=(.blk b1 #[iV a.kd,iV a.nd,iV a.qu,iV a.at_,iV a.kp,iV a.ek,iV a.ep,iV a.ei,iV a.eb,iV a.eh,iV a.en] 57)::fs) (X':=X) (z':=z) (Ls:=[]) (fA:=R.fA) (fc:=R.fc) (fx:=R.fx) (sA:=R.sA) (sc:=R.sc) (tA:=R.tA) (tc:=R.tc) (rr:=(.blk b1 #[iV a.kd,iV a.nd,iV a.qu,iV a.at_,iV a.kp,iV a.ek,iV a.ep,iV a.ei,iV a.eb,iV a.eh,iV a.en] 57)::rr) hkn bY (by rw [<-hrr]<;>rfl) G hn AX NG.more (λu hu=> .inl hu) (aI hX).symm G.fly.symm mI;refine iY 9 rfl axe (Xk hn hkn bY hu (by have:=qx.fi hn;omega) (by have:=qx.aV;have:=qx.il hn;omega) (by have:=qx.turn n hn;omega) aBJ (qx.kW n hn).nu (λl hl=>Em (qx.mK n hn l hl)) (λp h=>(qx.kW n hn).fit h)) ?_;rintro _ w61 ⟨rfl,asB⟩;refine ⟨_,rfl,?_⟩;have Jh:=Wd.wM (gs:=[.blk b1 #[iV a.kd,iV a.nd,iV a.qu,iV a.at_,iV a.kp,iV a.ek,iV a.ep,iV a.ei,iV a.eb,iV a.eh,iV a.en] 57]) asB;refine aJ 2 ?_;refine bT (l':=[]) trivial (iw (aY (rs:=[]) (vs:=[]) rfl trivial ?_));rw [afv (by assumption) hnd];exact ⟨rfl,(Wd.less (gs:=[.blk b1 #[iV a.kd,iV a.nd,iV a.qu,iV a.at_,iV a.kp,iV a.ek,iV a.ep,iV a.ei,iV a.eb,iV a.eh,iV a.en] 57]) asB)⟩
 refine zN 8 ?_;by_cases h63:a.kd=4
 ·refine zN 11 ?_;refine vv (v:=iV ((a.at_.toNat:Nat):Int)) (Bl amy (aj rfl rfl (ay Tryz.underlying3 rfl (St.cl 0 S3 rfl rfl)))) ?_;refine zN 6 ?_;have S64:=S3.dU [7,7,7,7,7,7,7];have FY:=S64;rw [<-qw] at FY;have agj:=Wd.dJ (m:=m) (m':=m) (H:=H) (H':=H) (fs:=(.blk b1 #[iV a.kd,iV a.nd,iV a.qu,iV a.at_,iV a.kp,iV a.ek,iV a.ep,iV a.ei,iV a.eb,iV a.eh,iV a.en] 57)::fs) (X':=X) (z':=z) (Ls:=[]) (fA:=R.fA) (fc:=R.fc) (fx:=R.fx) (sA:=R.sA) (sc:=R.sc) (tA:=R.tA) (tc:=R.tc) (rr:=(.blk b1 #[iV a.kd,iV a.nd,iV a.qu,iV a.at_,iV a.kp,iV a.ek,iV a.ep,iV a.ei,iV a.eb,iV a.eh,iV a.en] 57)::rr) hkn bY (by rw [<-hrr]<;>rfl) G hn FY NG.more (λu hu=> .inl hu) (aI hX).symm G.fly.symm mI;refine dI ak8 (Db hn hkn bY hu (by have:=qx.fl;omega) (by have:=qx.bL;omega) (λj hj=>by have:=qx.il hj;omega) agj (λl hl=>(qx.vE l hl).tgt)) ?_;rintro _ w68 ⟨rfl,aaW⟩;refine ⟨_,rfl,?_⟩;have vC:=Wd.wM (gs:=[.blk b1 #[iV a.kd,iV a.nd,iV a.qu,iV a.at_,iV a.kp,iV a.ek,iV a.ep,iV a.ei,iV a.eb,iV a.eh,iV a.en] 57]) aaW;refine zQ ?_;refine bT (l':=[]) trivial (iw (aY (rs:=[]) (vs:=[]) rfl trivial ?_));rw [ajj (by assumption)];exact ⟨rfl,(Wd.less (gs:=[.blk b1 #[iV a.kd,iV a.nd,iV a.qu,iV a.at_,iV a.kp,iV a.ek,iV a.ep,iV a.ei,iV a.eb,iV a.eh,iV a.en] 57]) aaW)⟩
 refine zN 7 ?_;by_cases h70:a.kd=5
 ·refine zN 11 ?_;refine vv (v:=iV ((a.at_.toNat:Nat):Int)) (Bl amy (aj rfl rfl (ay Tryz.underlying3 rfl (St.cl 0 S3 rfl rfl)))) ?_;refine zN 6 ?_;have rE:=S3.dU [7,7,7,7,7,7,7];have tH:=rE;rw [<-qw] at tH;have aBK:=Wd.dJ (m:=m) (m':=m) (H:=H) (H':=H) (fs:=(.blk b1 #[iV a.kd,iV a.nd,iV a.qu,iV a.at_,iV a.kp,iV a.ek,iV a.ep,iV a.ei,iV a.eb,iV a.eh,iV a.en] 57)::fs) (X':=X) (z':=z) (Ls:=[]) (fA:=R.fA) (fc:=R.fc) (fx:=R.fx) (sA:=R.sA) (sc:=R.sc) (tA:=R.tA) (tc:=R.tc) (rr:=(.blk b1 #[iV a.kd,iV a.nd,iV a.qu,iV a.at_,iV a.kp,iV a.ek,iV a.ep,iV a.ei,iV a.eb,iV a.eh,iV a.en] 57)::rr) hkn bY (by rw [<-hrr]<;>rfl) G hn tH NG.more (λu hu=> .inl hu) (aI hX).symm G.fly.symm mI;refine dI ak8 (Db hn hkn bY hu (by have:=qx.fl;omega) (by have:=qx.bL;omega) (λj hj=>by have:=qx.il hj;omega) aBK (λl hl=>(qx.vE l hl).tgt)) ?_;rintro _ w75 ⟨rfl,asC⟩;refine ⟨_,rfl,?_⟩;have Jb:=Wd.wM (gs:=[.blk b1 #[iV a.kd,iV a.nd,iV a.qu,iV a.at_,iV a.kp,iV a.ek,iV a.ep,iV a.ei,iV a.eb,iV a.eh,iV a.en] 57]) asC;refine zQ ?_;refine bT (l':=[]) trivial (iw (aY (rs:=[]) (vs:=[]) rfl trivial ?_));rw [ajk (by assumption)];exact ⟨rfl,(Wd.less (gs:=[.blk b1 #[iV a.kd,iV a.nd,iV a.qu,iV a.at_,iV a.kp,iV a.ek,iV a.ep,iV a.ei,iV a.eb,iV a.eh,iV a.en] 57]) asC)⟩
 refine zN 6 ?_;by_cases h77:a.kd=6
 ·refine zN 8 ?_;refine vv (v:=iV ((a.at_.toNat:Nat):Int)) (Bl amy (aj rfl rfl (ay Tryz.underlying3 rfl (St.cl 0 S3 rfl rfl)))) ?_;refine zN 6 ?_;have EZ:=S3.dU [7,7,7,7,7,7,7];have AY:=EZ;rw [<-qw] at AY;have aBL:=Wd.dJ (m:=m) (m':=m) (H:=H) (H':=H) (fs:=(.blk b1 #[iV a.kd,iV a.nd,iV a.qu,iV a.at_,iV a.kp,iV a.ek,iV a.ep,iV a.ei,iV a.eb,iV a.eh,iV a.en] 57)::fs) (X':=X) (z':=z) (Ls:=[]) (fA:=R.fA) (fc:=R.fc) (fx:=R.fx) (sA:=R.sA) (sc:=R.sc) (tA:=R.tA) (tc:=R.tc) (rr:=(.blk b1 #[iV a.kd,iV a.nd,iV a.qu,iV a.at_,iV a.kp,iV a.ek,iV a.ep,iV a.ei,iV a.eb,iV a.eh,iV a.en] 57)::rr) hkn bY (by rw [<-hrr]<;>rfl) G hn AY NG.more (λu hu=> .inl hu) (aI hX).symm G.fly.symm mI;refine dI ak8 (Db hn hkn bY hu (by have:=qx.fl;omega) (by have:=qx.bL;omega) (λj hj=>by have:=qx.il hj;omega) aBL (λl hl=>(qx.vE l hl).tgt)) ?_;rintro _ w82 ⟨rfl,asD⟩;refine ⟨_,rfl,?_⟩;have AU:=Wd.wM (gs:=[.blk b1 #[iV a.kd,iV a.nd,iV a.qu,iV a.at_,iV a.kp,iV a.ek,iV a.ep,iV a.ei,iV a.eb,iV a.eh,iV a.en] 57]) asD;refine zQ ?_;refine bT (l':=[]) trivial (iw (aY (rs:=[]) (vs:=[]) rfl trivial ?_));rw [ajl (by assumption)];exact ⟨rfl,(Wd.less (gs:=[.blk b1 #[iV a.kd,iV a.nd,iV a.qu,iV a.at_,iV a.kp,iV a.ek,iV a.ep,iV a.ei,iV a.eb,iV a.eh,iV a.en] 57]) asD)⟩
 refine zN 7 ?_;by_cases h84:a.kd=7
 ·refine zN 10 ?_;refine vv (aj rfl rfl (ay Tryz.underlying73 rfl (St.cl 4 S3 rfl QX))) ?_;refine zN 8 ?_;refine jq 4 S3 BJ ?_ (hs:=by exact alL);intro w85 AZ;refine zN 10 ?_;have F5:=AZ.aR [0];have Jj:=F5.nil 105 23;have Jc:=((((((((Jj.bring 5 rfl).bring 7 rfl).bring 7 rfl).bring 3 rfl).bring 7 rfl).bring 7 rfl).bring 7 rfl).bring 7 rfl);rw [<-qw] at Jc;obtain ⟨m1,hm1⟩: ∃ k,k=({ m with fly:=[] }:Cl):=⟨_,rfl⟩;have HW1:Wd K B w0 w85 ((oL R.fA R.fx R.fc)::fs) m1 (R.fx++H):=by
   rw [hm1];exact Wd.dJ (m:=m) (H:=H) (fs:=(oL R.fA R.fx R.fc)::fs) (X':=X) (z':=z) (Ls:=[]) (fA:=none) (fc:=0) (fx:=[]) (sA:=R.sA) (sc:=R.sc) (tA:=R.tA) (tc:=R.tc) (rr:=(oL R.fA R.fx R.fc)::rr) hkn bY (by rw [<-hrr];rfl) G hn Jc NG.more (λu hu=>by simp at hu) (aI hX).symm rfl (λu hu=>(List.mem_append.1 hu).elim (λh=> .inr ((G.flo u h).mono λf hf=>List.mem_append_left _ hf)) .inl)
  have hB0:=afr qx;rw [<-hm1] at hB0;refine dW (X:=Nat×Cl) (λxv=>[(0,pV kw 0),(90,.slice R.fA R.fx.length R.fc),(91,iV ((R.fx.length:Nat):Int)),(92,iV ((xv.1:Nat):Int))]) (λxv wr=>(Wd K B w0 wr ((oL R.fA R.fx R.fc)::fs) xv.2 (R.fx.drop xv.1++H))/\(m.fly.foldl Cl.come m1=(m.fly.drop xv.1).foldl Cl.come xv.2)/\(xv.1<=R.fx.length)/\(fJ xv.2 (4*k+xv.1) (500000*k) (500000*k+xv.1) k)/\St B w0 wr [.own 105 23 (.slice R.fA R.fx.length R.fc) R.fx.length ((R.fx).flatMap LX.cells)]) (λxv=>R.fx.length-xv.1) (0,m1) ?_ ?_ ?_
  ·exact ⟨HW1,rfl,Nat.zero_le _,hB0,Wd.wM (gs:=[.own 105 23 (.slice R.fA R.fx.length R.fc) R.fx.length ((R.fx).flatMap LX.cells)]) HW1⟩
  ·exact ⟨rfl,rfl,rfl,rfl,trivial⟩
  rintro ⟨k2,mm⟩ w90 ⟨amA,amB,aBM,abt,Ma⟩
  try dsimp only at amA amB aBM abt Ma
  refine bC (l':=[(0,pV kw 0),(90,.slice R.fA R.fx.length R.fc),(91,iV ((R.fx.length:Nat):Int)),(92,iV ((k2:Nat):Int))]) ⟨rfl,rfl,rfl,rfl,trivial⟩ ?_;obtain ⟨R3,G3,UM⟩:=amA.open hn;have Sr:=G3.kW n hn;obtain ⟨X3,Bn⟩: ∃ X,mm.ah n=X:=⟨_,rfl⟩;obtain ⟨z3,hz3⟩: ∃ z,R3.nx n=z:=⟨_,rfl⟩;rw [Bn,hz3] at UM Sr;obtain ⟨YD,IY⟩: ∃ r,fV K R3 mm fs n=r:=⟨_,rfl⟩;have zl:St B w0 w90 ((bN kn n X3.up z3.tA X3.data z3.tc X3.syn z3.bb X3.hints X3.sure z3.iA z3.ix z3.ic z3.pv X3.turn)::(oB z3.bb z3.bx)::(fL z3.iA z3.ix z3.ic)::(bW kw (.slice R3.nA 5 R3.nc) mm.off R3.fA R3.fx R3.fc mm.shown R3.sA mm.aV R3.sc R3.tA mm.bL R3.tc mm.calls)::(oL R3.fA R3.fx R3.fc)::(oS R3.sA mm.aV R3.sc)::(oT R3.tA mm.bL R3.tc)::(oL R.fA R.fx R.fc)::YD):=by rw [<-IY];subst hkn;subst bY;exact UM
  clear UM;refine zN 2 ?_;by_cases h97:((k2:Nat):Int)< ((R.fx.length:Nat):Int)
  ·refine zN 10 ?_;obtain ⟨x,hx⟩: ∃ x,R.fx[k2]? =some x:=⟨_,List.getElem?_eq_getElem (by omega)⟩;have hxf:m.fly[k2]? =some x.l:=by rw [<-G.fly,List.getElem?_map,hx];rfl
   have hxb:=qx.vE x.l (List.mem_of_getElem? hxf);refine zQ ?_;obtain ⟨fb,fo,hfA⟩:=rd_some (St.ord 7 zl rfl) (by omega);refine vv (v:=pV fb (fo+k2*23)) (aT rfl rfl rfl (dK k2 hfA Tryz.underlying73 xA (by omega) (by omega))) ?_;refine vv (v:= .agg (LX.row x)) (aj rfl rfl (aA (cs:=LX.cells x) Tryz.underlying105 rfl xA rfl (λj u hu=>by rw [Nat.add_assoc];exact IW (St.ord 7 zl rfl) hfA (bg (enc:=LX.cells) (sz:=23) (k:=k2) (λ_=>rfl) hx hu)))) ?_;refine fF zl abX ?_;intro b98 w99 rV;refine stA 0 rV xA ?_ (h1:=Dx _);intro aqx sO;refine zN 5 ?_;have qI:=sO.aR [0];have avd:=Wd.dJ (m:=mm) (m':=mm) (H:=R.fx.drop k2++H) (H':=x::(R.fx.drop (k2+1)++H)) (fs:=(oL R.fA R.fx R.fc)::fs) (X':=X3) (z':=z3) (Ls:=[]) (fA:=R3.fA) (fc:=R3.fc) (fx:=R3.fx) (sA:=R3.sA) (sc:=R3.sc) (tA:=R3.tA) (tc:=R3.tc) (rr:=(oL R.fA R.fx R.fc)::YD) hkn bY (by rw [<-IY];rfl) G3 hn ((((((((qI.bring 7 rfl).bring 7 rfl).bring 7 rfl).bring 7 rfl).bring 7 rfl).bring 7 rfl).bring 7 rfl).bring 7 rfl) Sr.more (λu hu=> .inl hu) (aI Bn).symm G3.fly.symm (by rw [drop_cons hx];exact mI);obtain ⟨jj,hjj,htt⟩:=hxb.tgt;refine dI ak9 (Da (m:=mm) (x:=x) hjj rfl bY hu (by have:=(abt).fl;omega) (by have:=(abt).bL;omega) (by have:=(abt).il hjj;omega) avd htt) ?_;rintro _ Z7 ⟨rfl,ace⟩;refine ⟨_,rfl,?_⟩;obtain ⟨mc,hmc⟩: ∃ k,k=mm.come x.l:=⟨_,rfl⟩;have yu:=Wd.wM (gs:=[.own 105 23 (.slice R.fA R.fx.length R.fc) R.fx.length ((R.fx).flatMap LX.cells)]) ace;refine zN 4 ?_;refine vv (v:=iV ((k2+1:Nat):Int)) gN ?_;refine zN 2 ?_;refine aS (k2+1,mc) ?_ ⟨rfl,rfl,rfl,rfl,trivial⟩ (by first | omega | (dsimp only;omega));exact ⟨(by dsimp only;rw [hmc];exact ace),(by dsimp only;rw [amB,afs hxf,<-hmc]),(by dsimp only;omega),(by dsimp only;rw [hmc];exact (Gf abt hxb).mono (by omega) (Nat.le_refl _) (by omega) (Nat.le_refl _)),(Wd.wM (gs:=[.own 105 23 (.slice R.fA R.fx.length R.fc) R.fx.length ((R.fx).flatMap LX.cells)]) (hmc▸ace))⟩
  refine zN 11 ?_;have qF:m.act a=mm:=by rw [ajm (by assumption)];show m.fly.foldl Cl.come { m with fly:=[] }=mm;rw [<-hm1,amB,List.drop_eq_nil_of_le (by omega)];rfl
  rw [qF];have aBN:R.fx.length<=k2:=by omega
  exact ⟨rfl,Wd.less (gs:=[.own 105 23 (.slice R.fA R.fx.length R.fc) R.fx.length ((R.fx).flatMap LX.cells)]) (by have h9:=amA;rw [List.drop_eq_nil_of_le aBN] at h9;exact h9)⟩
 refine zN 7 ?_;by_cases amf:a.kd=8
 ·refine zN 6 ?_;refine fu S3 mixed (by kernel_rfl) ?_;refine zN 3 ?_;refine uv (v:= .slice (aD ab ao) 5 R.nc) (λ_ ave=>(aj rfl rfl (ay Tryz.underlying72 rfl (St.cl 4 ave rfl zG)))) ?_;refine zQ ?_;refine uv (v:=iV ((n:Nat):Int)) (λ_ avf=>(Bl hnd (aj rfl rfl (ay Tryz.underlying3 rfl (St.cl 0 avf rfl rfl))))) ?_;refine uv (λ_ _=>jh n) ?_;refine uv (v:=pV kn 0) (λ_ avg=>(aj rfl rfl (ay Tryz.underlying80 rfl (hkn▸vH harr hn avg (memT 8 rfl hL))))) ?_;refine zQ ?_;refine eO λagn qJ=>?_;refine zN 9 ?_
  cases akR:(X.up)
  ·refine bC (l':=[(3,pV b1 0),(7,pV kn 0),(113,.bool false)]) ⟨rfl,rfl,rfl,trivial⟩ (lG rfl (qz (iw (aY (rs:=[]) (vs:=[]) rfl trivial ?_))));have zD:=qJ.aR [0];have zy:=zD;rw [<-qw] at zy;have avh:=Wd.dJ (m:=m) (m':=m) (H:=H) (H':=H) (fs:=fs) (X':=X) (z':=z) (Ls:=[]) (fA:=R.fA) (fc:=R.fc) (fx:=R.fx) (sA:=R.sA) (sc:=R.sc) (tA:=R.tA) (tc:=R.tc) (rr:=rr) hkn bY (by rw [<-hrr]<;>rfl) G hn zy NG.more (λu hu=> .inl hu) (aI hX).symm G.fly.symm mI;rw [Oe (by assumption) hnd,abr (by rw [hX];assumption)];exact ⟨rfl,avh⟩
  refine bC (l':=[(3,pV b1 0),(7,pV kn 0),(113,.bool true)]) ⟨rfl,rfl,rfl,trivial⟩ (lF rfl (aQ ?_));have NW:=qJ.drew;refine aG 14 NW [1] ?_;refine aJ 6 ?_;refine aW 4 ?_;refine iC (i:=4) rfl rfl (v:= .agg #[.slice z.tA X.data.length z.tc,iV X.syn]) (wn rfl) rfl rfl (aj rfl rfl (aA (cs:=[.slice z.tA X.data.length z.tc,iV X.syn]) Tryz.underlying83 rfl fB rfl (St.rg 1 NW rfl (rJ)))) ?_;refine bZ ?_;refine aW 7 ?_;refine iY 7 rfl axf (Ap (SK z.tA X.data.length z.tc X.data X.syn a.kp _ (NG.xL.rd NW (memT 8 rfl hL)))) ?_;rintro _ Vh ⟨agv,amC,rfl,aBO⟩;refine ⟨_,rfl,?_⟩;have um:=NW.ext aBO rfl;refine aJ 6 ?_;refine aW 13 ?_;refine snz (row':=dF n X.up (.slice agv ((mo X.data X.syn a.kp).1.length) amC) ((mo X.data X.syn a.kp).2.1) (.slice (aD z.bb 0) 4 4) X.hints X.sure (.slice z.iA z.ix.length z.ic) (z.pv) X.turn) 13 rfl 2 um fB ?_;intro arW Ir;refine aJ 2 ?_;refine zN 6 ?_;refine jq (row':=dF n false (.slice agv ((mo X.data X.syn a.kp).1.length) amC) ((mo X.data X.syn a.kp).2.1) (.slice (aD z.bb 0) 4 4) X.hints X.sure (.slice z.iA z.ix.length z.ic) (z.pv) X.turn) 2 Ir Ie ?_;intro aBP VI;refine zN 4 ?_;have K9:=VI.dU [2];refine dI QA (mV K9 hu) ?_;rintro _ aqA ⟨rfl,avi,Cc⟩;refine ⟨_,rfl,?_⟩;have zC:=Cc.aR [5,4,3];refine zQ ?_;refine bT (l':=[]) trivial (iw (aY (rs:=[]) (vs:=[]) rfl trivial ?_));rw [Oe (by assumption) hnd,afw (by rw [hX];assumption)];have aaS:=zC.BL 105 23;have Nv:=aaS.dU [7,7,7,7,4,6,6];rw [<-qw] at Nv;exact ⟨rfl,Wd.dJ (X':=X.crashed a.kp) (z':={ bb:=avi,tA:=agv,tc:=amC,bx:=sw,iA:=none,ic:=0,ix:=[],pv:= .nilFunc }) (Ls:=[.cu 1 agv ((mo X.data X.syn a.kp).1.length) (byteCells ((mo X.data X.syn a.kp).1))]) (fA:=R.fA) (fc:=R.fc) (fx:=R.fx) (sA:=R.sA) (sc:=R.sc) (tA:=R.tA) (tc:=R.tc) hkn bY hrr G hn Nv ⟨rfl,Od,Ro.cu (List.mem_append_right _ (List.mem_singleton.2 rfl)),rfl,λy hy=>(by cases hy),rfl⟩ (λu hu=> .inl hu) (by rw [hX];rfl) G.fly.symm mI⟩
 refine zN 7 ?_;by_cases aIx:a.kd=9
 ·refine zN 5 ?_;have ame:St B w0 w2 [.blk b1 #[iV a.kd,iV a.nd,iV a.qu,iV a.at_,iV a.kp,iV a.ek,iV a.ep,iV a.ei,iV a.eb,iV a.eh,iV a.en] 57]:=S3.sub (List.Sublist.cons_cons _ (List.nil_sublist _));have UQ:=S3.drew;have uY:=ame.drew;refine aG 10 uY [] ?_;refine aJ 5 ?_;refine ak (v:=iV ((n:Nat):Int)) 6 rfl uY (λ_ ab1=>(Bl hnd (aj rfl rfl (ay Tryz.underlying3 rfl (St.cl 0 ab1 rfl rfl))))) ?_;refine aW 4 ?_;refine iC (i:=4) rfl rfl (v:= .slice (aD ab ao) 5 R.nc) (wn rfl) rfl rfl (aj rfl rfl (ay Tryz.underlying72 rfl (St.cl 4 UQ rfl zG))) ?_;refine bZ ?_;refine ak 7 rfl uY (λ_ _=>jh n) ?_;refine aW 8 ?_;refine iC (i:=8) rfl rfl (v:=pV kn 0) (wn rfl) rfl rfl (aj rfl rfl (ay Tryz.underlying80 rfl (hkn▸vH harr hn UQ (memT 8 rfl hL)))) ?_;refine bZ ?_;refine aW 9 ?_;have Iz:=UQ.dU [7,7,7,7,7,7,7];have Vr:=Iz;rw [<-qw] at Vr;have VJ:=Wd.dJ (m:=m) (m':=m) (H:=H) (H':=H) (fs:=(.blk b1 #[iV a.kd,iV a.nd,iV a.qu,iV a.at_,iV a.kp,iV a.ek,iV a.ep,iV a.ei,iV a.eb,iV a.eh,iV a.en] 57)::fs) (X':=X) (z':=z) (Ls:=[]) (fA:=R.fA) (fc:=R.fc) (fx:=R.fx) (sA:=R.sA) (sc:=R.sc) (tA:=R.tA) (tc:=R.tc) (rr:=(.blk b1 #[iV a.kd,iV a.nd,iV a.qu,iV a.at_,iV a.kp,iV a.ek,iV a.ep,iV a.ei,iV a.eb,iV a.eh,iV a.en] 57)::rr) hkn bY (by rw [<-hrr]<;>rfl) G hn Vr NG.more (λu hu=> .inl hu) (aI hX).symm G.fly.symm mI;refine iY 9 rfl axg (TW hn hkn bY hu (by have:=qx.fl;omega) (by have:=qx.aV;omega) VJ (qx.kW n hn).LY.1 (qx.kW n hn).LY.2.1 (qx.kW n hn).LY.2.2.1 (qx.kW n hn).LY.2.2.2 hsh) ?_;rintro _ ayx ⟨rfl,akS⟩;refine ⟨_,rfl,?_⟩;have aqt:=Wd.wM (gs:=[.blk b1 #[iV a.kd,iV a.nd,iV a.qu,iV a.at_,iV a.kp,iV a.ek,iV a.ep,iV a.ei,iV a.eb,iV a.eh,iV a.en] 57]) akS;refine aJ 2 ?_;refine bT (l':=[]) trivial (iw (aY (rs:=[]) (vs:=[]) rfl trivial ?_));rw [abp (by assumption) hnd];exact ⟨rfl,(Wd.less (gs:=[.blk b1 #[iV a.kd,iV a.nd,iV a.qu,iV a.at_,iV a.kp,iV a.ek,iV a.ep,iV a.ei,iV a.eb,iV a.eh,iV a.en] 57]) akS)⟩
 refine zN 8 ?_;refine vv (v:=iV ((q:Nat):Int)) (Bl hqd (aj rfl rfl (ay Tryz.underlying3 rfl (St.cl 0 S3 rfl rfl)))) ?_;refine zN 2 ?_;obtain ⟨PW,vI⟩: ∃ r,bn m.off q=r:=⟨_,rfl⟩;obtain ⟨nn,hnn,hwn⟩:=aji vI;have amD:=S3.dU [7,7,7,7,7,7,7];have Vi:=amD;rw [<-qw] at Vi;have avj:=Wd.dJ (m:=m) (m':=m) (H:=H) (H':=H) (fs:=(.blk b1 #[iV a.kd,iV a.nd,iV a.qu,iV a.at_,iV a.kp,iV a.ek,iV a.ep,iV a.ei,iV a.eb,iV a.eh,iV a.en] 57)::fs) (X':=X) (z':=z) (Ls:=[]) (fA:=R.fA) (fc:=R.fc) (fx:=R.fx) (sA:=R.sA) (sc:=R.sc) (tA:=R.tA) (tc:=R.tc) (rr:=(.blk b1 #[iV a.kd,iV a.nd,iV a.qu,iV a.at_,iV a.kp,iV a.ek,iV a.ep,iV a.ei,iV a.eb,iV a.eh,iV a.en] 57)::rr) hkn bY (by rw [<-hrr]<;>rfl) G hn Vi NG.more (λu hu=> .inl hu) (aI hX).symm G.fly.symm mI;refine dI axh (Xm hnn rfl bY hu (by have:=qx.fl;omega) (by have:=qx.aV;omega) hq avj (qx.kW nn hnn).nu vI hwn) ?_;rintro _ alY ⟨rfl,akT⟩;refine ⟨_,rfl,?_⟩;have Vs:=Wd.wM (gs:=[.blk b1 #[iV a.kd,iV a.nd,iV a.qu,iV a.at_,iV a.kp,iV a.ek,iV a.ep,iV a.ei,iV a.eb,iV a.eh,iV a.en] 57]) akT;refine zQ ?_;refine bT (l':=[]) trivial (iw (aY (rs:=[]) (vs:=[]) rfl trivial ?_));rw [abq (by assumption) (by assumption) (by assumption) (by assumption) (by assumption) (by assumption) (by assumption) (by assumption) (by assumption) hqd];exact ⟨rfl,(Wd.less (gs:=[.blk b1 #[iV a.kd,iV a.nd,iV a.qu,iV a.at_,iV a.kp,iV a.ek,iV a.ep,iV a.ei,iV a.eb,iV a.eh,iV a.en] 57]) akT)⟩
theorem St.jG {B:Nat} {w0 w:World} {fs:List Fact} {b n s:Nat} {row:Array Value} {t:TypeId} {xs:List Value} (i:Nat) (S:St B w0 w fs) (hi:fs[i]? =some (.blk b row t)) (hx:row.toList=xs) (hl:xs.length=n*s):St B w0 w (fs.set i (.cu s (some ⟨b,0,none⟩) n xs)):=
 St.turn i S hi S.low (Nat.le_refl _) (λ_ _ _=>rfl) ⟨St.lV i S hi hx hl,λa h=>by cases h;exact ⟨St.ge i S hi,St.lt i S hi⟩⟩ (λk hk=> .inl hk)
def dn (g:Nat) (p:Nat×Int):List Value:=[.pointer (some ⟨g,p.1,none⟩),.int .i64 p.2]
def bU (kd ek:Int):ByteArray:=
 if kd=1 then ⟨#[109,97,107,101]⟩ else if kd=10 then ⟨#[109,111,118,101]⟩ else if kd=3 then ⟨#[115,116,101,112]⟩ else if kd=9 then ⟨#[115,116,97,114,116]⟩ else if kd=8 then ⟨#[99,114,97,115,104]⟩
 else if kd=4 then ⟨#[99,97,114,114,121]⟩ else if kd=5 then ⟨#[108,111,115,101]⟩ else if kd=6 then ⟨#[100,111,117,98,108,101]⟩ else if kd=7 then ⟨#[97,108,108]⟩
 else if kd=2 then (if ek=1 then ⟨#[112,117,98,108,105,115,104]⟩ else if ek=2 then ⟨#[114,101,99,101,105,118,101]⟩ else if ek=3 then ⟨#[97,99,107]⟩ else ⟨#[]⟩) else ⟨#[]⟩
def afy (w:World) (g:Nat) (u:ByteArray) (r:Option (List (Nat×Int))) (e:Ending) (w':World):Prop:=match r with
 | none=>e= .returned (.tuple #[.string u,.slice none 0 0,.bool false])/\Below w.heap.size w w'
 | some l=> ∃ A,e= .returned (.tuple #[.string u,.slice A l.length l.length,.bool true])/\St w.heap.size w w' [.cu 2 A l.length (l.flatMap (dn g))]
theorem Ac.akU (x:Ac) {i:Nat} (h:i<11):x.cells.toArray[i]? =some (.int .i64 (x.get i)):=by rw [List.getElem?_toArray];exact x.cell h
theorem Xp (g:Nat) (x:Ac) (w:World) (h:Rd w w.heap.size 11 (aD g 0) 1 x.cells):
    Calls Tryz.prog 23 #[pV g 0] w (afy w g (bU x.kd x.ek) (bS x.kd x.ek)):=by
 have S:=(St.start w).bV h;refine gB 111 Tryz.func23 ?_;refine cw [0] ?_;refine zN 8 ?_;have S1:=S.drew;refine Ic (C:=λw'=>St w.heap.size w w' [.rd 11 (aD g 0) 1 x.cells]) (n:=12) (listed:= #[false,false,false,false,false,false,false,false,false,false,false,false]) mixed rfl rfl ?_;refine aJ 3 ?_;refine ak (v:= .agg #[pV g 1,iV 4]) 3 rfl S1 (λ_ _=>gD) ?_;refine aJ 3 ?_;refine ak (v:= .agg #[pV g 2,iV 3]) 7 rfl S1 (λ_ _=>gD) ?_;refine gZ (n:=3) (r:=8) (s:=9) (by kernel_rfl) ?_ ?_
 ·refine kS 8 rfl S1 EP ?_;intro b10 Jd mF;refine bZ ?_;refine aW 9 ?_;refine kS 9 rfl mF EP ?_;intro b13 Jk gI;refine bZ ?_;refine aW 10 ?_;refine sn 10 rfl 1 gI tC ?_;intro w16 lN;refine bZ ?_;refine aW 11 ?_;refine sn 11 rfl 0 lN tC ?_;intro Ng lX;refine aJ 2 ?_;refine zN 6 ?_;refine vv (v:= .agg #[pV g 3,iV 1048576]) gD ?_;refine fF lX EP ?_;intro b20 Dq iR;refine sa 0 iR tC ?_;intro Jg jw;refine zN 8 ?_;refine vv (v:=iV x.kd) (aj rfl rfl (ay Tryz.underlying3 rfl (Rd.cl (j:=0) (St.rd 3 jw rfl) rfl))) ?_;refine zN 5 ?_;by_cases uo:x.kd=1
  ·refine zN 6 ?_;have lS:=jw.drew;refine aG 6 lS [] ?_;refine aJ 3 ?_;refine aW 2 ?_;refine jK (i:=2) rfl rfl (V:=λb=> .slice (aD b 0) 2 2) (row:= #[pV g 2,iV 3,pV g 1,iV 4]) (t:=96) lS (wn rfl) rfl rfl (aU (vs:=[(0,.agg #[pV g 2,iV 3]),(1,.agg #[pV g 1,iV 4])]) rfl ⟨rfl,rfl,rfl,rfl,trivial⟩ (by kernel_rfl)) ?_;intro b30 Zv o8;refine aJ 4 ?_;refine zN 5 ?_;rw [show bU x.kd x.ek=⟨#[109,97,107,101]⟩ from by simp [bU,uo]];have sG:=o8.aR [4,3,2,1];rw [show bS x.kd x.ek=some [(2,3),(1,4)] from by simp [bS,uo]];exact ⟨_,rfl,St.jG (n:=2) (xs:=([(2,3),(1,4)]:List (Nat×Int)).flatMap (dn g)) 0 sG rfl rfl rfl⟩
  refine zN 7 ?_;by_cases yX:x.kd=10
  ·refine zN 6 ?_;have lY:=jw.drew;refine aG 6 lY [] ?_;refine aJ 3 ?_;refine aW 2 ?_;refine jK (i:=2) rfl rfl (V:=λb=> .slice (aD b 0) 2 2) (row:= #[pV g 2,iV 3,pV g 1,iV 4]) (t:=96) lY (wn rfl) rfl rfl (aU (vs:=[(0,.agg #[pV g 2,iV 3]),(1,.agg #[pV g 1,iV 4])]) rfl ⟨rfl,rfl,rfl,rfl,trivial⟩ (by kernel_rfl)) ?_;intro b41 Uq p9;refine aJ 4 ?_;refine zN 5 ?_;rw [show bU x.kd x.ek=⟨#[109,111,118,101]⟩ from by simp [bU,uo,yX]];have nG:=p9.aR [4,3,2,1];rw [show bS x.kd x.ek=some [(2,3),(1,4)] from by simp [bS,uo,yX]];exact ⟨_,rfl,St.jG (n:=2) (xs:=([(2,3),(1,4)]:List (Nat×Int)).flatMap (dn g)) 0 nG rfl rfl rfl⟩
  refine zN 7 ?_;by_cases h47:x.kd=3
  ·refine zN 6 ?_;have wo:=jw.drew;refine aG 5 wo [] ?_;refine aJ 2 ?_;refine aW 1 ?_;refine FU 1 rfl wo ?_;intro b51 w52 yR;refine aJ 4 ?_;refine zN 5 ?_;rw [show bU x.kd x.ek=⟨#[115,116,101,112]⟩ from by simp [bU,uo,yX,h47]];have G6:=yR.aR [4,3,2,1];rw [show bS x.kd x.ek=some [(1,4)] from by simp [bS,uo,yX,h47]];exact ⟨_,rfl,St.jG (n:=1) (xs:=([(1,4)]:List (Nat×Int)).flatMap (dn g)) 0 G6 rfl rfl rfl⟩
  refine zN 7 ?_;by_cases h57:x.kd=9
  ·refine zN 6 ?_;have CG:=jw.drew;refine aG 5 CG [] ?_;refine aJ 2 ?_;refine aW 1 ?_;refine FU 1 rfl CG ?_;intro b61 Ye wz;refine aJ 4 ?_;refine zN 5 ?_;rw [show bU x.kd x.ek=⟨#[115,116,97,114,116]⟩ from by simp [bU,uo,yX,h47,h57]];have FY:=wz.aR [4,3,2,1];rw [show bS x.kd x.ek=some [(1,4)] from by simp [bS,uo,yX,h47,h57]];exact ⟨_,rfl,St.jG (n:=1) (xs:=([(1,4)]:List (Nat×Int)).flatMap (dn g)) 0 FY rfl rfl rfl⟩
  refine zN 7 ?_;by_cases AV:x.kd=8
  ·refine zN 6 ?_;have zM:=jw.drew;refine aG 9 zM [] ?_;refine aJ 4 ?_;refine ak (v:= .agg #[pV g 4,iV 100000]) 4 rfl zM (λ_ _=>gD) ?_;refine bZ ?_;refine aW 5 ?_;refine jK (i:=5) rfl rfl (V:=λb=> .slice (aD b 0) 2 2) (row:= #[pV g 1,iV 4,pV g 4,iV 100000]) (t:=96) zM (wn rfl) rfl rfl (aU (vs:=[(0,.agg #[pV g 1,iV 4]),(1,.agg #[pV g 4,iV 100000])]) rfl ⟨rfl,rfl,rfl,rfl,trivial⟩ (by kernel_rfl)) ?_;intro b75 w76 CB;refine aJ 4 ?_;refine zN 5 ?_;rw [show bU x.kd x.ek=⟨#[99,114,97,115,104]⟩ from by simp [bU,uo,yX,h47,h57,AV]];have AY:=CB.aR [4,3,2,1];rw [show bS x.kd x.ek=some [(1,4),(4,100000)] from by simp [bS,uo,yX,h47,h57,AV]];exact ⟨_,rfl,St.jG (n:=2) (xs:=([(1,4),(4,100000)]:List (Nat×Int)).flatMap (dn g)) 0 AY rfl rfl rfl⟩
  refine zN 7 ?_;by_cases Hq:x.kd=4
  ·refine zN 6 ?_;have S82:=jw.drew;refine aG 5 S82 [] ?_;refine aJ 2 ?_;refine aW 1 ?_;refine FU 1 rfl S82 ?_;intro b85 w86 F5;refine aJ 4 ?_;refine zN 5 ?_;rw [show bU x.kd x.ek=⟨#[99,97,114,114,121]⟩ from by simp [bU,uo,yX,h47,h57,AV,Hq]];have ZP:=F5.aR [4,3,2,1];rw [show bS x.kd x.ek=some [(3,1048576)] from by simp [bS,uo,yX,h47,h57,AV,Hq]];exact ⟨_,rfl,St.jG (n:=1) (xs:=([(3,1048576)]:List (Nat×Int)).flatMap (dn g)) 0 ZP rfl rfl rfl⟩
  refine zN 7 ?_;by_cases Fa:x.kd=5
  ·refine zN 6 ?_;have yS:=jw.drew;refine aG 5 yS [] ?_;refine aJ 2 ?_;refine aW 1 ?_;refine FU 1 rfl yS ?_;intro b95 w96 CO;refine aJ 4 ?_;refine zN 5 ?_;rw [show bU x.kd x.ek=⟨#[108,111,115,101]⟩ from by simp [bU,uo,yX,h47,h57,AV,Hq,Fa]];have rV:=CO.aR [4,3,2,1];rw [show bS x.kd x.ek=some [(3,1048576)] from by simp [bS,uo,yX,h47,h57,AV,Hq,Fa]];exact ⟨_,rfl,St.jG (n:=1) (xs:=([(3,1048576)]:List (Nat×Int)).flatMap (dn g)) 0 rV rfl rfl rfl⟩
  refine zN 7 ?_;by_cases Bp:x.kd=6
  ·refine zN 6 ?_;have sO:=jw.drew;refine aG 5 sO [] ?_;refine aJ 2 ?_;refine aW 1 ?_;refine FU 1 rfl sO ?_;intro aIy Z7 yu;refine aJ 4 ?_;refine zN 5 ?_;rw [show bU x.kd x.ek=⟨#[100,111,117,98,108,101]⟩ from by simp [bU,uo,yX,h47,h57,AV,Hq,Fa,Bp]];have pJ:=yu.aR [4,3,2,1];rw [show bS x.kd x.ek=some [(3,1048576)] from by simp [bS,uo,yX,h47,h57,AV,Hq,Fa,Bp]];exact ⟨_,rfl,St.jG (n:=1) (xs:=([(3,1048576)]:List (Nat×Int)).flatMap (dn g)) 0 pJ rfl rfl rfl⟩
  refine zN 7 ?_;by_cases Cr:x.kd=7
  ·refine zN 16 ?_;rw [show bU x.kd x.ek=⟨#[97,108,108]⟩ from by simp [bU,uo,yX,h47,h57,AV,Hq,Fa,Bp,Cr]];have vT:=jw.aR [3,2,1,0];rw [show bS x.kd x.ek=some [] from by simp [bS,uo,yX,h47,h57,AV,Hq,Fa,Bp,Cr]];exact ⟨none,rfl,aF vT⟩
  refine zN 7 ?_;by_cases IZ:x.kd=2
  ·refine zN 18 ?_;refine vv (v:=iV x.ek) (aj rfl rfl (ay Tryz.underlying3 rfl (Rd.cl (j:=5) (St.rd 3 jw rfl) rfl))) ?_;refine zN 5 ?_;by_cases Gi:x.ek=1
   ·refine zN 6 ?_;have nY:=jw.drew;refine aG 18 nY [] ?_;refine aJ 5 ?_;refine ak (v:= .agg #[pV g 6,iV 3]) 5 rfl nY (λ_ _=>gD) ?_;refine aJ 3 ?_;refine ak (v:= .agg #[pV g 7,iV 1073741824]) 9 rfl nY (λ_ _=>gD) ?_;refine aJ 3 ?_;refine ak (v:= .agg #[pV g 8,iV 1000000]) 13 rfl nY (λ_ _=>gD) ?_;refine bZ ?_;refine aW 14 ?_;refine jK (i:=14) rfl rfl (V:=λb=> .slice (aD b 0) 5 5) (row:= #[pV g 1,iV 4,pV g 2,iV 3,pV g 6,iV 3,pV g 7,iV 1073741824,pV g 8,iV 1000000]) (t:=96) nY (wn rfl) rfl rfl (aU (vs:=[(0,.agg #[pV g 1,iV 4]),(1,.agg #[pV g 2,iV 3]),(2,.agg #[pV g 6,iV 3]),(3,.agg #[pV g 7,iV 1073741824]),(4,.agg #[pV g 8,iV 1000000])]) rfl ⟨rfl,rfl,rfl,rfl,rfl,rfl,rfl,rfl,rfl,rfl,trivial⟩ (by kernel_rfl)) ?_;intro aIz aAl QU;refine aJ 4 ?_;refine zN 6 ?_;rw [show bU x.kd x.ek=⟨#[112,117,98,108,105,115,104]⟩ from by simp [bU,uo,yX,h47,h57,AV,Hq,Fa,Bp,Cr,IZ,Gi]];have AP:=QU.aR [4,3,2,1];rw [show bS x.kd x.ek=some [(1,4),(2,3),(6,3),(7,1073741824),(8,1000000)] from by simp [bS,uo,yX,h47,h57,AV,Hq,Fa,Bp,Cr,IZ,Gi]];exact ⟨_,rfl,St.jG (n:=5) (xs:=([(1,4),(2,3),(6,3),(7,1073741824),(8,1000000)]:List (Nat×Int)).flatMap (dn g)) 0 AP rfl rfl rfl⟩
   refine zN 7 ?_;by_cases VK:x.ek=2
   ·refine zN 6 ?_;have D9:=jw.drew;refine aG 6 D9 [] ?_;refine aJ 3 ?_;refine aW 2 ?_;refine jK (i:=2) rfl rfl (V:=λb=> .slice (aD b 0) 2 2) (row:= #[pV g 1,iV 4,pV g 2,iV 3]) (t:=96) D9 (wn rfl) rfl rfl (aU (vs:=[(0,.agg #[pV g 1,iV 4]),(1,.agg #[pV g 2,iV 3])]) rfl ⟨rfl,rfl,rfl,rfl,trivial⟩ (by kernel_rfl)) ?_;intro aqz aBP VI;refine aJ 4 ?_;refine zN 6 ?_;rw [show bU x.kd x.ek=⟨#[114,101,99,101,105,118,101]⟩ from by simp [bU,uo,yX,h47,h57,AV,Hq,Fa,Bp,Cr,IZ,Gi,VK]];have QG:=VI.aR [4,3,2,1];rw [show bS x.kd x.ek=some [(1,4),(2,3)] from by simp [bS,uo,yX,h47,h57,AV,Hq,Fa,Bp,Cr,IZ,Gi,VK]];exact ⟨_,rfl,St.jG (n:=2) (xs:=([(1,4),(2,3)]:List (Nat×Int)).flatMap (dn g)) 0 QG rfl rfl rfl⟩
   refine zN 7 ?_;by_cases agw:x.ek=3
   ·refine zN 6 ?_;have zC:=jw.drew;refine aG 16 zC [] ?_;refine aJ 6 ?_;refine ak (v:= .agg #[pV g 9,iV 1048576]) 6 rfl zC (λ_ _=>gD) ?_;refine aJ 4 ?_;refine ak (v:= .agg #[pV g 10,iV 1073741824]) 11 rfl zC (λ_ _=>gD) ?_;refine bZ ?_;refine aW 12 ?_;refine jK (i:=12) rfl rfl (V:=λb=> .slice (aD b 0) 4 4) (row:= #[pV g 1,iV 4,pV g 2,iV 3,pV g 9,iV 1048576,pV g 10,iV 1073741824]) (t:=96) zC (wn rfl) rfl rfl (aU (vs:=[(0,.agg #[pV g 1,iV 4]),(1,.agg #[pV g 2,iV 3]),(2,.agg #[pV g 9,iV 1048576]),(3,.agg #[pV g 10,iV 1073741824])]) rfl ⟨rfl,rfl,rfl,rfl,rfl,rfl,rfl,rfl,trivial⟩ (by kernel_rfl)) ?_;intro aIA aqD yj;refine aJ 4 ?_;refine zN 6 ?_;rw [show bU x.kd x.ek=⟨#[97,99,107]⟩ from by simp [bU,uo,yX,h47,h57,AV,Hq,Fa,Bp,Cr,IZ,Gi,VK,agw]];have amD:=yj.aR [4,3,2,1];rw [show bS x.kd x.ek=some [(1,4),(2,3),(9,1048576),(10,1073741824)] from by simp [bS,uo,yX,h47,h57,AV,Hq,Fa,Bp,Cr,IZ,Gi,VK,agw]];exact ⟨_,rfl,St.jG (n:=4) (xs:=([(1,4),(2,3),(9,1048576),(10,1073741824)]:List (Nat×Int)).flatMap (dn g)) 0 amD rfl rfl rfl⟩
   refine zN 18 ?_;rw [show bU x.kd x.ek=⟨#[]⟩ from by simp [bU,uo,yX,h47,h57,AV,Hq,Fa,Bp,Cr,IZ,Gi,VK,agw]];rw [show bS x.kd x.ek=none from by simp [bS,uo,yX,h47,h57,AV,Hq,Fa,Bp,Cr,IZ,Gi,VK,agw]];exact ⟨rfl,jw.low⟩
  refine zN 17 ?_;rw [show bU x.kd x.ek=⟨#[]⟩ from by simp [bU,uo,yX,h47,h57,AV,Hq,Fa,Bp,Cr,IZ]];rw [show bS x.kd x.ek=none from by simp [bS,uo,yX,h47,h57,AV,Hq,Fa,Bp,Cr,IZ]];exact ⟨rfl,jw.low⟩
 refine kS 9 rfl S1 EP ?_;intro aIB aIC alD;refine bZ ?_;refine aW 8 ?_;refine kS 8 rfl alD EP ?_;intro aID ayz ZL;refine bZ ?_;refine aW 10 ?_;refine sn 10 rfl 0 ZL tC ?_;intro aIE aaY;refine bZ ?_;refine aW 11 ?_;refine sn 11 rfl 1 aaY tC ?_;intro aAp Vk;refine aJ 2 ?_;refine zN 6 ?_;refine vv (v:= .agg #[pV g 3,iV 1048576]) gD ?_;refine fF Vk EP ?_;intro aIF aIG aaf;refine sa 0 aaf tC ?_;intro aBQ uZ;refine zN 8 ?_;refine vv (v:=iV x.kd) (aj rfl rfl (ay Tryz.underlying3 rfl (Rd.cl (j:=0) (St.rd 3 uZ rfl) rfl))) ?_;refine zN 5 ?_;by_cases nK:x.kd=1
 ·refine zN 6 ?_;have asE:=uZ.drew;refine aG 6 asE [] ?_;refine aJ 3 ?_;refine aW 2 ?_;refine jK (i:=2) rfl rfl (V:=λb=> .slice (aD b 0) 2 2) (row:= #[pV g 2,iV 3,pV g 1,iV 4]) (t:=96) asE (wn rfl) rfl rfl (aU (vs:=[(0,.agg #[pV g 2,iV 3]),(1,.agg #[pV g 1,iV 4])]) rfl ⟨rfl,rfl,rfl,rfl,trivial⟩ (by kernel_rfl)) ?_;intro aIH azN amj;refine aJ 4 ?_;refine zN 5 ?_;rw [show bU x.kd x.ek=⟨#[109,97,107,101]⟩ from by simp [bU,nK]];have Q0:=amj.aR [4,3,2,1];rw [show bS x.kd x.ek=some [(2,3),(1,4)] from by simp [bS,nK]];exact ⟨_,rfl,St.jG (n:=2) (xs:=([(2,3),(1,4)]:List (Nat×Int)).flatMap (dn g)) 0 Q0 rfl rfl rfl⟩
 refine zN 7 ?_;by_cases oK:x.kd=10
 ·refine zN 6 ?_;have asF:=uZ.drew;refine aG 6 asF [] ?_;refine aJ 3 ?_;refine aW 2 ?_;refine jK (i:=2) rfl rfl (V:=λb=> .slice (aD b 0) 2 2) (row:= #[pV g 2,iV 3,pV g 1,iV 4]) (t:=96) asF (wn rfl) rfl rfl (aU (vs:=[(0,.agg #[pV g 2,iV 3]),(1,.agg #[pV g 1,iV 4])]) rfl ⟨rfl,rfl,rfl,rfl,trivial⟩ (by kernel_rfl)) ?_;intro aII aIJ aBR;refine aJ 4 ?_;refine zN 5 ?_;rw [show bU x.kd x.ek=⟨#[109,111,118,101]⟩ from by simp [bU,nK,oK]];have aBS:=aBR.aR [4,3,2,1];rw [show bS x.kd x.ek=some [(2,3),(1,4)] from by simp [bS,nK,oK]];exact ⟨_,rfl,St.jG (n:=2) (xs:=([(2,3),(1,4)]:List (Nat×Int)).flatMap (dn g)) 0 aBS rfl rfl rfl⟩
 refine zN 7 ?_;by_cases qh:x.kd=3
 ·refine zN 6 ?_;have agr:=uZ.drew;refine aG 5 agr [] ?_;refine aJ 2 ?_;refine aW 1 ?_;refine FU 1 rfl agr ?_;intro aIK aIL aBT;refine aJ 4 ?_;refine zN 5 ?_;rw [show bU x.kd x.ek=⟨#[115,116,101,112]⟩ from by simp [bU,nK,oK,qh]];have aBU:=aBT.aR [4,3,2,1];rw [show bS x.kd x.ek=some [(1,4)] from by simp [bS,nK,oK,qh]];exact ⟨_,rfl,St.jG (n:=1) (xs:=([(1,4)]:List (Nat×Int)).flatMap (dn g)) 0 aBU rfl rfl rfl⟩
 refine zN 7 ?_;by_cases rY:x.kd=9
 ·refine zN 6 ?_;have asG:=uZ.drew;refine aG 5 asG [] ?_;refine aJ 2 ?_;refine aW 1 ?_;refine FU 1 rfl asG ?_;intro aIM aIN aBV;refine aJ 4 ?_;refine zN 5 ?_;rw [show bU x.kd x.ek=⟨#[115,116,97,114,116]⟩ from by simp [bU,nK,oK,qh,rY]];have ams:=aBV.aR [4,3,2,1];rw [show bS x.kd x.ek=some [(1,4)] from by simp [bS,nK,oK,qh,rY]];exact ⟨_,rfl,St.jG (n:=1) (xs:=([(1,4)]:List (Nat×Int)).flatMap (dn g)) 0 ams rfl rfl rfl⟩
 refine zN 7 ?_;by_cases uE:x.kd=8
 ·refine zN 6 ?_;have abl:=uZ.drew;refine aG 9 abl [] ?_;refine aJ 4 ?_;refine ak (v:= .agg #[pV g 4,iV 100000]) 4 rfl abl (λ_ _=>gD) ?_;refine bZ ?_;refine aW 5 ?_;refine jK (i:=5) rfl rfl (V:=λb=> .slice (aD b 0) 2 2) (row:= #[pV g 1,iV 4,pV g 4,iV 100000]) (t:=96) abl (wn rfl) rfl rfl (aU (vs:=[(0,.agg #[pV g 1,iV 4]),(1,.agg #[pV g 4,iV 100000])]) rfl ⟨rfl,rfl,rfl,rfl,trivial⟩ (by kernel_rfl)) ?_;intro aIO aIP aBW;refine aJ 4 ?_;refine zN 5 ?_;rw [show bU x.kd x.ek=⟨#[99,114,97,115,104]⟩ from by simp [bU,nK,oK,qh,rY,uE]];have amt:=aBW.aR [4,3,2,1];rw [show bS x.kd x.ek=some [(1,4),(4,100000)] from by simp [bS,nK,oK,qh,rY,uE]];exact ⟨_,rfl,St.jG (n:=2) (xs:=([(1,4),(4,100000)]:List (Nat×Int)).flatMap (dn g)) 0 amt rfl rfl rfl⟩
 refine zN 7 ?_;by_cases vZ:x.kd=4
 ·refine zN 6 ?_;have asH:=uZ.drew;refine aG 5 asH [] ?_;refine aJ 2 ?_;refine aW 1 ?_;refine FU 1 rfl asH ?_;intro aIQ aIR aBX;refine aJ 4 ?_;refine zN 5 ?_;rw [show bU x.kd x.ek=⟨#[99,97,114,114,121]⟩ from by simp [bU,nK,oK,qh,rY,uE,vZ]];have aBY:=aBX.aR [4,3,2,1];rw [show bS x.kd x.ek=some [(3,1048576)] from by simp [bS,nK,oK,qh,rY,uE,vZ]];exact ⟨_,rfl,St.jG (n:=1) (xs:=([(3,1048576)]:List (Nat×Int)).flatMap (dn g)) 0 aBY rfl rfl rfl⟩
 refine zN 7 ?_;by_cases yG:x.kd=5
 ·refine zN 6 ?_;have ags:=uZ.drew;refine aG 5 ags [] ?_;refine aJ 2 ?_;refine aW 1 ?_;refine FU 1 rfl ags ?_;intro aIS aIT aBZ;refine aJ 4 ?_;refine zN 5 ?_;rw [show bU x.kd x.ek=⟨#[108,111,115,101]⟩ from by simp [bU,nK,oK,qh,rY,uE,vZ,yG]];have aB0:=aBZ.aR [4,3,2,1];rw [show bS x.kd x.ek=some [(3,1048576)] from by simp [bS,nK,oK,qh,rY,uE,vZ,yG]];exact ⟨_,rfl,St.jG (n:=1) (xs:=([(3,1048576)]:List (Nat×Int)).flatMap (dn g)) 0 aB0 rfl rfl rfl⟩
 refine zN 7 ?_;by_cases Bq:x.kd=6
 ·refine zN 6 ?_;have asI:=uZ.drew;refine aG 5 asI [] ?_;refine aJ 2 ?_;refine aW 1 ?_;refine FU 1 rfl asI ?_;intro aIU aIV aB1;refine aJ 4 ?_;refine zN 5 ?_;rw [show bU x.kd x.ek=⟨#[100,111,117,98,108,101]⟩ from by simp [bU,nK,oK,qh,rY,uE,vZ,yG,Bq]];have aB2:=aB1.aR [4,3,2,1];rw [show bS x.kd x.ek=some [(3,1048576)] from by simp [bS,nK,oK,qh,rY,uE,vZ,yG,Bq]];exact ⟨_,rfl,St.jG (n:=1) (xs:=([(3,1048576)]:List (Nat×Int)).flatMap (dn g)) 0 aB2 rfl rfl rfl⟩
 refine zN 7 ?_;by_cases Eu:x.kd=7
 ·refine zN 16 ?_;rw [show bU x.kd x.ek=⟨#[97,108,108]⟩ from by simp [bU,nK,oK,qh,rY,uE,vZ,yG,Bq,Eu]];have aB3:=uZ.aR [3,2,1,0];rw [show bS x.kd x.ek=some [] from by simp [bS,nK,oK,qh,rY,uE,vZ,yG,Bq,Eu]];exact ⟨none,rfl,aF aB3⟩
 refine zN 7 ?_;by_cases I5:x.kd=2
 ·refine zN 18 ?_;refine vv (v:=iV x.ek) (aj rfl rfl (ay Tryz.underlying3 rfl (Rd.cl (j:=5) (St.rd 3 uZ rfl) rfl))) ?_;refine zN 5 ?_;by_cases Og:x.ek=1
  ·refine zN 6 ?_;have abu:=uZ.drew;refine aG 18 abu [] ?_;refine aJ 5 ?_;refine ak (v:= .agg #[pV g 6,iV 3]) 5 rfl abu (λ_ _=>gD) ?_;refine aJ 3 ?_;refine ak (v:= .agg #[pV g 7,iV 1073741824]) 9 rfl abu (λ_ _=>gD) ?_;refine aJ 3 ?_;refine ak (v:= .agg #[pV g 8,iV 1000000]) 13 rfl abu (λ_ _=>gD) ?_;refine bZ ?_;refine aW 14 ?_;refine jK (i:=14) rfl rfl (V:=λb=> .slice (aD b 0) 5 5) (row:= #[pV g 1,iV 4,pV g 2,iV 3,pV g 6,iV 3,pV g 7,iV 1073741824,pV g 8,iV 1000000]) (t:=96) abu (wn rfl) rfl rfl (aU (vs:=[(0,.agg #[pV g 1,iV 4]),(1,.agg #[pV g 2,iV 3]),(2,.agg #[pV g 6,iV 3]),(3,.agg #[pV g 7,iV 1073741824]),(4,.agg #[pV g 8,iV 1000000])]) rfl ⟨rfl,rfl,rfl,rfl,rfl,rfl,rfl,rfl,rfl,rfl,trivial⟩ (by kernel_rfl)) ?_;intro aIW aIX aB4;refine aJ 4 ?_;refine zN 6 ?_;rw [show bU x.kd x.ek=⟨#[112,117,98,108,105,115,104]⟩ from by simp [bU,nK,oK,qh,rY,uE,vZ,yG,Bq,Eu,I5,Og]];have aB5:=aB4.aR [4,3,2,1];rw [show bS x.kd x.ek=some [(1,4),(2,3),(6,3),(7,1073741824),(8,1000000)] from by simp [bS,nK,oK,qh,rY,uE,vZ,yG,Bq,Eu,I5,Og]];exact ⟨_,rfl,St.jG (n:=5) (xs:=([(1,4),(2,3),(6,3),(7,1073741824),(8,1000000)]:List (Nat×Int)).flatMap (dn g)) 0 aB5 rfl rfl rfl⟩
  refine zN 7 ?_;by_cases VL:x.ek=2
  ·refine zN 6 ?_;have agt:=uZ.drew;refine aG 6 agt [] ?_;refine aJ 3 ?_;refine aW 2 ?_;refine jK (i:=2) rfl rfl (V:=λb=> .slice (aD b 0) 2 2) (row:= #[pV g 1,iV 4,pV g 2,iV 3]) (t:=96) agt (wn rfl) rfl rfl (aU (vs:=[(0,.agg #[pV g 1,iV 4]),(1,.agg #[pV g 2,iV 3])]) rfl ⟨rfl,rfl,rfl,rfl,trivial⟩ (by kernel_rfl)) ?_;intro aIY aIZ aB6;refine aJ 4 ?_;refine zN 6 ?_;rw [show bU x.kd x.ek=⟨#[114,101,99,101,105,118,101]⟩ from by simp [bU,nK,oK,qh,rY,uE,vZ,yG,Bq,Eu,I5,Og,VL]];have aB7:=aB6.aR [4,3,2,1];rw [show bS x.kd x.ek=some [(1,4),(2,3)] from by simp [bS,nK,oK,qh,rY,uE,vZ,yG,Bq,Eu,I5,Og,VL]];exact ⟨_,rfl,St.jG (n:=2) (xs:=([(1,4),(2,3)]:List (Nat×Int)).flatMap (dn g)) 0 aB7 rfl rfl rfl⟩
  refine zN 7 ?_;by_cases agx:x.ek=3
  ·refine zN 6 ?_;have agy:=uZ.drew;refine aG 16 agy [] ?_;refine aJ 6 ?_;refine ak (v:= .agg #[pV g 9,iV 1048576]) 6 rfl agy (λ_ _=>gD) ?_;refine aJ 4 ?_;refine ak (v:= .agg #[pV g 10,iV 1073741824]) 11 rfl agy (λ_ _=>gD) ?_;refine bZ ?_;refine aW 12 ?_;refine jK (i:=12) rfl rfl (V:=λb=> .slice (aD b 0) 4 4) (row:= #[pV g 1,iV 4,pV g 2,iV 3,pV g 9,iV 1048576,pV g 10,iV 1073741824]) (t:=96) agy (wn rfl) rfl rfl (aU (vs:=[(0,.agg #[pV g 1,iV 4]),(1,.agg #[pV g 2,iV 3]),(2,.agg #[pV g 9,iV 1048576]),(3,.agg #[pV g 10,iV 1073741824])]) rfl ⟨rfl,rfl,rfl,rfl,rfl,rfl,rfl,rfl,trivial⟩ (by kernel_rfl)) ?_;intro aI0 aI1 aB8;refine aJ 4 ?_;refine zN 6 ?_;rw [show bU x.kd x.ek=⟨#[97,99,107]⟩ from by simp [bU,nK,oK,qh,rY,uE,vZ,yG,Bq,Eu,I5,Og,VL,agx]];have agu:=aB8.aR [4,3,2,1];rw [show bS x.kd x.ek=some [(1,4),(2,3),(9,1048576),(10,1073741824)] from by simp [bS,nK,oK,qh,rY,uE,vZ,yG,Bq,Eu,I5,Og,VL,agx]];exact ⟨_,rfl,St.jG (n:=4) (xs:=([(1,4),(2,3),(9,1048576),(10,1073741824)]:List (Nat×Int)).flatMap (dn g)) 0 agu rfl rfl rfl⟩
  refine zN 18 ?_;rw [show bU x.kd x.ek=⟨#[]⟩ from by simp [bU,nK,oK,qh,rY,uE,vZ,yG,Bq,Eu,I5,Og,VL,agx]];rw [show bS x.kd x.ek=none from by simp [bS,nK,oK,qh,rY,uE,vZ,yG,Bq,Eu,I5,Og,VL,agx]];exact ⟨rfl,uZ.low⟩
 refine zN 17 ?_;rw [show bU x.kd x.ek=⟨#[]⟩ from by simp [bU,nK,oK,qh,rY,uE,vZ,yG,Bq,Eu,I5]];rw [show bS x.kd x.ek=none from by simp [bS,nK,oK,qh,rY,uE,vZ,yG,Bq,Eu,I5]];exact ⟨rfl,uZ.low⟩
theorem Qs (x:Ac) (w:World):
    Calls Tryz.prog 17 #[.agg #[iV x.kd,iV x.nd,iV x.qu,iV x.at_,iV x.kp,iV x.ek,iV x.ep,iV x.ei,iV x.eb,iV x.eh,iV x.en]] w (l6 w (dH x)):=by
 have S:=St.start w;refine gB 57 Tryz.func17 ?_;refine cw [0] ?_;refine zN 2 ?_;refine iK S ?_;intro b1 w2 S3;refine zN 4 ?_;have HF:=λw h=>Xp b1 x w h
 rcases hf:bS x.kd x.ek with _ | l
 ·rw [hf] at HF;refine zQ ?_;refine dI apI (HF _ (St.lV 0 S3 rfl rfl rfl)) ?_;rintro _ w4 ⟨rfl,hb6⟩;refine ⟨_,rfl,?_⟩;have S5:=S3.on hb6;refine zN 25 ?_;rw [X4 hf];exact ⟨rfl,S5.low⟩
 rw [hf] at HF;have hl5:=ad2 hf;refine zQ ?_;refine dI apI (HF _ (St.lV 0 S3 rfl rfl rfl)) ?_;rintro _ w8 ⟨A7,rfl,T10⟩;refine ⟨_,rfl,?_⟩;have S9:=S3.ext T10 rfl;refine zN 28 ?_;refine dW (X:=Nat) (λxv=>[(1,pV b1 0),(2,iV 0),(4,.slice A7 l.length l.length),(17,.slice A7 l.length l.length),(18,iV ((l.length:Nat):Int)),(19,iV ((xv:Nat):Int))]) (λxv wr=>(xv<=l.length)/\((l.take xv).all (Nb x)=true)/\St w.heap.size w wr [.cu 2 A7 l.length ((l).flatMap (dn b1)),.blk b1 #[iV x.kd,iV x.nd,iV x.qu,iV x.at_,iV x.kp,iV x.ek,iV x.ep,iV x.ei,iV x.eb,iV x.eh,iV x.en] 57]) (λxv=>l.length-xv) (0) ?_ ?_ ?_
 ·exact ⟨Nat.zero_le _,rfl,S9⟩
 ·exact ⟨rfl,rfl,rfl,rfl,rfl,rfl,trivial⟩
 rintro k Jd ⟨ali,La,mF⟩
 try dsimp only at ali La mF
 refine bC (l':=[(1,pV b1 0),(2,iV 0),(4,.slice A7 l.length l.length),(17,.slice A7 l.length l.length),(18,iV ((l.length:Nat):Int)),(19,iV ((k:Nat):Int))]) ⟨rfl,rfl,rfl,rfl,rfl,rfl,trivial⟩ (aQ (aC ?_));by_cases h15:((k:Nat):Int)< ((l.length:Nat):Int)
 ·refine zN 11 ?_;obtain ⟨b16,o17,rfl⟩:=Rd.addr (St.cu 0 mF rfl) (by omega);obtain ⟨x18,Ec⟩:=L6 k (St.cu 0 mF rfl) (by omega);refine vv (jh k) ?_;refine vv (aj rfl rfl (aA (cs:=(dn b1) x18) Tryz.underlying96 rfl tC rfl (Rd.vM (St.cu 0 mF rfl) (λ_ _ h=>bg (enc:=(dn b1)) (sz:=2) (λ_=>rfl) Ec h)))) ?_;refine fF mF EP ?_;intro b20 Dq iR;refine sa 0 iR tC ?_;intro Jg jw;refine zN 2 ?_;have hp:=OL hf x18 (List.mem_of_getElem? Ec);refine zQ ?_;refine fu jw mixed (by kernel_rfl) ?_;refine zN 3 ?_;refine uv (v:=iV (x.get x18.1)) (λ_ alv=>(aj rfl rfl (ay Tryz.underlying3 rfl (St.cl 2 alv rfl (Ac.akU x hp.2.1))))) ?_;by_cases h29:x.get x18.1<0
  ·refine zN 10 ?_;refine eO λZg qG=>?_;refine zN 14 ?_;rw [JD hf (X6 Ec (by omega))];exact ⟨rfl,qG.low⟩
  refine zN 5 ?_;refine ug (v:=iV (x.get x18.1)) (λ_ aB9=>(aj rfl rfl (ay Tryz.underlying3 rfl (St.cl 2 aB9 rfl (Ac.akU x hp.2.1))))) ?_;refine zN 2 ?_;by_cases h43:x18.2<x.get x18.1
  ·refine zN 2 ?_;refine eO λYi yU=>?_;refine zN 14 ?_;rw [JD hf (X6 Ec (by omega))];exact ⟨rfl,yU.low⟩
  refine zN 2 ?_;refine eO λUu tZ=>?_;refine zN 6 ?_;refine vv (v:=iV ((k+1:Nat):Int)) gN ?_;refine zN 2 ?_;have oZ:=tZ.aR [0];refine aS (k+1) ?_ ⟨rfl,rfl,rfl,rfl,rfl,rfl,trivial⟩ (by first | omega | (dsimp only;omega));exact ⟨(by omega),(ad4 Ec La (by omega)),oZ⟩
 refine zN 19 ?_;obtain rfl:k=l.length:=by omega
 have hall:=La;rw [List.take_length] at hall;refine dW (X:=Nat) (λxv=>[(1,pV b1 0),(2,iV 0),(38,.slice A7 l.length l.length),(39,iV ((l.length:Nat):Int)),(40,iV ((xv:Nat):Int))]) (λxv wr=>(xv<=l.length)/\St w.heap.size w wr [.cu 2 A7 l.length ((l).flatMap (dn b1)),.blk b1 (oP (yQ x.ints (l.take xv))) 57]) (λxv=>l.length-xv) (0) ?_ ?_ ?_
 ·exact ⟨Nat.zero_le _,mF⟩
 ·exact ⟨rfl,rfl,rfl,rfl,rfl,trivial⟩
 rintro j w53 ⟨N7,mG⟩
 try dsimp only at N7 mG
 refine bC (l':=[(1,pV b1 0),(2,iV 0),(38,.slice A7 l.length l.length),(39,iV ((l.length:Nat):Int)),(40,iV ((j:Nat):Int))]) ⟨rfl,rfl,rfl,rfl,rfl,trivial⟩ (aQ (aC ?_));by_cases h56:((j:Nat):Int)< ((l.length:Nat):Int)
 ·refine zN 11 ?_;obtain ⟨b57,o58,rfl⟩:=Rd.addr (St.cu 0 mG rfl) (by omega);obtain ⟨x59,amE⟩:=L6 j (St.cu 0 mG rfl) (by omega);refine vv (jh j) ?_;refine vv (aj rfl rfl (aA (cs:=(dn b1) x59) Tryz.underlying96 rfl tC rfl (Rd.vM (St.cu 0 mG rfl) (λ_ _ h=>bg (enc:=(dn b1)) (sz:=2) (λ_=>rfl) amE h)))) ?_;refine fF mG EP ?_;intro b61 Ye wz;refine sa 0 wz tC ?_;intro Yt F6;refine zN 6 ?_;have hp:=OL hf x59 (List.mem_of_getElem? amE);refine Ik (row':=oP (yQ x.ints (l.take (j+1)))) 2 F6 (wn rfl) rfl rfl rfl rfl rfl rfl mZ rfl (by rw [mE (by rw [xO];rfl)];omega) (by rw [AJ,ad5 amE]) ?_;intro Ut uf;refine zN 4 ?_;refine vv (v:=iV ((j+1:Nat):Int)) gN ?_;refine zN 2 ?_;have zM:=uf.aR [0];refine aS (j+1) ?_ ⟨rfl,rfl,rfl,rfl,rfl,trivial⟩ (by first | omega | (dsimp only;omega));exact ⟨(by omega),zM⟩
 refine zN 12 ?_;obtain rfl:j=l.length:=by omega
 rw [List.take_length] at mG;refine zN 2 ?_;refine vv (aj rfl rfl (ay Tryz.underlying3 rfl (St.cl 1 mG rfl (Ze (by rw [Rp _ _ (λp hp=>(OL hf p hp).1)];rfl))))) ?_;by_cases h69:x.kd=2
 ·refine zN 7 ?_;refine Ik (row':=oP ((yQ x.ints l).set 5 0)) 1 mG (wn rfl) rfl rfl rfl rfl rfl rfl mZ rfl (by rw [mE (by simp only [List.length_set,xO];rfl)];decide) AJ ?_;intro Zo rE;refine zN 5 ?_;refine Ik (row':=oP (((yQ x.ints l).set 5 0).set 0 0)) 1 rE (wn rfl) rfl rfl rfl rfl rfl rfl mZ rfl (by rw [mE (by simp only [List.length_set,xO];rfl)];decide) AJ ?_;intro w72 tH;refine zN 4 ?_;have hfn:fin x l=((yQ x.ints l).set 5 0).set 0 0:=by unfold fin;rw [if_pos h69]
  have hfl:(((yQ x.ints l).set 5 0).set 0 0).length=11:=by simp only [List.length_set,xO];rfl
  have HN:=λw=>acK (a:=((yQ x.ints l).set 5 0).set 0 0) (b:=zeros) hfl rfl w;rw [<-hfn] at HN;by_cases hfi:fin x l=zeros
  ·rw [decide_eq_true hfi] at HN;rw [hfn] at HN;refine zQ ?_;refine vv (v:= .agg (oP (((yQ x.ints l).set 5 0).set 0 0))) (aj rfl rfl (oq 1 tH rfl Tryz.underlying57 rfl jY (mE hfl))) ?_;refine zQ ?_;refine vv (v:= .bool false) (aK rfl rfl rfl (Hw (by kernel_rfl) (HN _))) ?_;refine zN 12 ?_;rw [aj2 hf hall hfi];exact ⟨rfl,tH.low⟩
  rw [decide_eq_false hfi] at HN;rw [hfn] at HN;refine zQ ?_;refine vv (v:= .agg (oP (((yQ x.ints l).set 5 0).set 0 0))) (aj rfl rfl (oq 1 tH rfl Tryz.underlying57 rfl jY (mE hfl))) ?_;refine zQ ?_;refine vv (v:= .bool true) (aK rfl rfl rfl (Hw (by kernel_rfl) (HN _))) ?_;refine zN 11 ?_;rw [OM hf hall hfi];exact ⟨rfl,tH.low⟩
 refine zN 9 ?_;refine Ik (row':=oP ((yQ x.ints l).set 0 0)) 1 mG (wn rfl) rfl rfl rfl rfl rfl rfl mZ rfl (by rw [mE (by simp only [List.length_set,xO];rfl)];decide) AJ ?_;intro w74 AL;refine zN 4 ?_;have hfn:fin x l=(yQ x.ints l).set 0 0:=by unfold fin;rw [if_neg h69]
 have hfl:((yQ x.ints l).set 0 0).length=11:=by simp only [List.length_set,xO];rfl
 have HN:=λw=>acK (a:=(yQ x.ints l).set 0 0) (b:=zeros) hfl rfl w;rw [<-hfn] at HN;by_cases hfi:fin x l=zeros
 ·rw [decide_eq_true hfi] at HN;rw [hfn] at HN;refine zQ ?_;refine vv (v:= .agg (oP ((yQ x.ints l).set 0 0))) (aj rfl rfl (oq 1 AL rfl Tryz.underlying57 rfl jY (mE hfl))) ?_;refine zQ ?_;refine vv (v:= .bool false) (aK rfl rfl rfl (Hw (by kernel_rfl) (HN _))) ?_;refine zN 12 ?_;rw [aj2 hf hall hfi];exact ⟨rfl,AL.low⟩
 rw [decide_eq_false hfi] at HN;rw [hfn] at HN;refine zQ ?_;refine vv (v:= .agg (oP ((yQ x.ints l).set 0 0))) (aj rfl rfl (oq 1 AL rfl Tryz.underlying57 rfl jY (mE hfl))) ?_;refine zQ ?_;refine vv (v:= .bool true) (aK rfl rfl rfl (Hw (by kernel_rfl) (HN _))) ?_;refine zN 11 ?_;rw [OM hf hall hfi];exact ⟨rfl,AL.low⟩
instance:zf Ac where
 size:=11
 ints x:=x.ints
 of l:=⟨l.getD 0 0,l.getD 1 0,l.getD 2 0,l.getD 3 0,l.getD 4 0,l.getD 5 0,l.getD 6 0,l.getD 7 0,l.getD 8 0,l.getD 9 0,l.getD 10 0⟩
 pos:=by omega
 len _:=rfl
 inv xs h:=by
  obtain ⟨a1,xs,rfl⟩:=List.exists_cons_of_length_eq_add_one h;obtain ⟨a2,xs,rfl⟩:=List.exists_cons_of_length_eq_add_one (Nat.succ.inj h);have h:=Nat.succ.inj (Nat.succ.inj h);obtain ⟨a3,xs,rfl⟩:=List.exists_cons_of_length_eq_add_one h;obtain ⟨a4,xs,rfl⟩:=List.exists_cons_of_length_eq_add_one (Nat.succ.inj h);have h:=Nat.succ.inj (Nat.succ.inj h);obtain ⟨a5,xs,rfl⟩:=List.exists_cons_of_length_eq_add_one h;obtain ⟨a6,xs,rfl⟩:=List.exists_cons_of_length_eq_add_one (Nat.succ.inj h);have h:=Nat.succ.inj (Nat.succ.inj h);obtain ⟨a7,xs,rfl⟩:=List.exists_cons_of_length_eq_add_one h;obtain ⟨a8,xs,rfl⟩:=List.exists_cons_of_length_eq_add_one (Nat.succ.inj h);have h:=Nat.succ.inj (Nat.succ.inj h);obtain ⟨a9,xs,rfl⟩:=List.exists_cons_of_length_eq_add_one h;obtain ⟨a10,xs,rfl⟩:=List.exists_cons_of_length_eq_add_one (Nat.succ.inj h);have h:=Nat.succ.inj (Nat.succ.inj h);obtain ⟨a11,xs,rfl⟩:=List.exists_cons_of_length_eq_add_one h;obtain rfl:=List.eq_nil_of_length_eq_zero (Nat.succ.inj h);rfl
def vK:List Ac->Int
 | []=>0
 | a::l=>if dH a≠0 then dH a else vK l
def Bt (l:List Ac):Int:=if 100000<l.length then 1 else vK l
section
variable {l:List Ac} {k:Nat} {x:Ac}
theorem apo (h:l[k]? =some x) (hf:dH x=0):vK (l.drop k)=vK (l.drop (k+1)):=by rw [drop_cons h,vK,if_neg (λe=>e hf)]
theorem ajn (h:l[k]? =some x) (hf: ¬ dH x=0):vK (l.drop k)=dH x:=by rw [drop_cons h,vK,if_pos hf]
theorem O5 (h: ¬ 100000<l.length):Bt l=vK l:=if_neg h
theorem afz (h:100000<l.length):Bt l=1:=if_pos h
theorem KN: ∀ {l:List Ac},vK l=0-> ∀ a∈l,dH a=0
 | [],_,a,ha=>by simp at ha
 | x::l,h,a,ha=>by
  rw [vK] at h
  split at h
  ·rename_i hx;exact absurd h hx
  rename_i hx
  rcases List.mem_cons.1 ha with rfl | ha
  ·exact Classical.not_not.1 hx
  exact KN h a ha
theorem ajo (h:Bt l=0):l.length<=100000/\ ∀ a∈l,dH a=0:=by
 unfold Bt at h
 split at h
 ·cases h
 exact ⟨by omega,KN h⟩
theorem ajp (h:l[k]? =some x):l.take (k+1)=l.take k++[x]:=by rw [List.take_add_one,h];rfl
theorem afA {m:Cl} {l:List Ac}:m.run (l++[x])=(m.run l).act x:=by unfold Cl.run;rw [List.foldl_append];rfl
end
def Fy (fl:Nat) (U:Nat->Bool) (d:Dir) (bv sv tv:Value) (calls:Nat):List Value:=
 [iV ((fl:Nat):Int),.bool (U 0),.bool (U 1),.bool (U 2),.bool (U 3),.bool (U 4),iV d.p0.node,iV d.p0.epoch,iV d.p1.node,iV d.p1.epoch,iV d.p2.node,iV d.p2.epoch,iV d.p3.node,iV d.p3.epoch,bv,sv,tv,iV ((calls:Nat):Int)]
def nL (fl:Nat) (U:Nat->Bool) (d:Dir) (bv sv tv:Value) (calls:Nat):Array Value:=(Fy fl U d bv sv tv calls).toArray
def ajq:Array Value:= #[iV 0,.bool false,.bool false,.bool false,.bool false,.bool false,iV 0,iV 0,iV 0,iV 0,iV 0,iV 0,iV 0,iV 0,.slice none 0 0,.slice none 0 0,.slice none 0 0,iV 0]
section
variable {fl calls q k:Nat} {U:Nat->Bool} {d:Dir} {bv sv tv fv nv:Value} {sh:Nat->Nat->Int×Int}
theorem akV (h1:bv.oneCell'=true) (h2:sv.oneCell'=true) (h3:tv.oneCell'=true): ∀ u∈(nL fl U d bv sv tv calls).toList,u.oneCell'=true:=by
 intro u hu;simp only [nL,Fy,List.mem_cons,List.not_mem_nil,or_false] at hu
 rcases hu with rfl | rfl | rfl | rfl | rfl | rfl | rfl | rfl | rfl | rfl | rfl | rfl | rfl | rfl | rfl | rfl | rfl | rfl<;>first | rfl | assumption
theorem VN {fl' calls' o:Nat} {U':Nat->Bool} {d':Dir} {bv' sv' tv':Value} {vs:List Value} (h:o+vs.length<=18) (he:(Fy fl U d bv sv tv calls).take o++vs++(Fy fl U d bv sv tv calls).drop (o+vs.length)=Fy fl' U' d' bv' sv' tv' calls'):
  cK (nL fl U d bv sv tv calls) o vs=nL fl' U' d' bv' sv' tv' calls':=Array.ext' (by rw [gU _ _ _ h];exact he)
theorem aCa {fl':Nat}:cK (nL fl U d bv sv tv calls) 0 [iV ((fl':Nat):Int)]=nL fl' U d bv sv tv calls:=VN (Nat.le_of_ble_eq_true rfl) rfl
theorem aCb {d':Dir}:cK (nL fl U d bv sv tv calls) 6 d'.cells=nL fl U d' bv sv tv calls:=VN (Nat.le_of_ble_eq_true rfl) rfl
theorem akW {x:Value}:cK (nL fl U d bv sv tv calls) 14 [x]=nL fl U d x sv tv calls:=VN (Nat.le_of_ble_eq_true rfl) rfl
theorem avk (hq:q<5) {v:Bool}:cK (nL fl U d bv sv tv calls) (1+q*1) [.bool v]=nL fl (upd U q v) d bv sv tv calls:=by
 rcases five hq with rfl | rfl | rfl | rfl | rfl<;>exact VN (Nat.le_of_ble_eq_true rfl) rfl
theorem ajr: ∀ (j:Nat) (u:Value),(nL 0 (λ_=>false) (⟨⟨0,0⟩,⟨0,0⟩,⟨0,0⟩,⟨0,0⟩⟩:Dir) (.slice none 0 0) sv tv calls).toList[j]? =some u->(kL nv d fv sh sv tv calls)[50+j]? =some u:=by
 intro j u h;have hj:j<18:=(List.getElem?_eq_some_iff.1 h).1;have h2:j=0\/j=1\/j=2\/j=3\/j=4\/j=5\/j=6\/j=7\/j=8\/j=9\/j=10\/j=11\/j=12\/j=13\/j=14\/j=15\/j=16\/j=17:=by omega
 rcases h2 with rfl | rfl | rfl | rfl | rfl | rfl | rfl | rfl | rfl | rfl | rfl | rfl | rfl | rfl | rfl | rfl | rfl | rfl<;>exact h
end
def gy (p:Nat×List BX):List Value:=[.slice (aD p.1 0) 4 4]
structure P1 (L:List Fact) (m:Cl) (j:Nat) (p:Nat×List BX):Prop where
 rd:Ro L 6 (aD p.1 0) 4 (p.2.flatMap BX.cells)
 bm:p.2.map BX.b=vB (m.ah j).view
 bo: ∀ y∈p.2,Bb L y
theorem P1.mono {L L':List Fact} {m:Cl} {j:Nat} {p:Nat×List BX} (h:P1 L m j p) (hl: ∀ f∈L,f∈L'):P1 L' m j p:=⟨h.rd.mono hl,h.bm,λy hy=>(h.bo y hy).mono hl⟩
def VO (L:List Fact) (m:Cl) (row:Array Value):Prop:= ∃ (U:Nat->Bool) (BA:Option Addr) (bc:Nat) (sA:Option Addr) (sc:Nat) (tA:Option Addr) (tc:Nat) (ps:List (Nat×List BX)),row=nL m.fly.length U m.off (.slice BA 5 bc) (.slice sA m.aV.length sc) (.slice tA m.bL.length tc) m.calls/\(∀ j,j<5->U j=(m.ah j).up)/\ps.length=5/\
 Ro L 1 BA 5 (ps.flatMap gy)/\Ro L 14 sA m.aV.length (m.aV.flatMap kH.cells)/\Ro L 7 tA m.bL.length (m.bL.flatMap wE.cells)/\ ∀ j p,ps[j]? =some p->P1 L m j p
section
variable {K:CK} {R:CX} {B n k:Nat} {w0 w:World} {fs gs N E L LC:List Fact} {m:Cl} {H:List LX} {X:Nd} {z:NX} {ps:List (Nat×List BX)} {p:Nat×List BX} {bs:List BX} {bB:Nat} {U:Nat->Bool}
theorem Wd.top (h:Wd K B w0 w fs m H):St B w0 w fs:=by
 obtain ⟨R,_,S⟩:=h;exact S.sub (List.sublist_append_left _ _)
open Classical in
theorem St.shut (hn:n<5) (S:St B w0 w (jT K n (m.ah n) (R.nx n)++(uy K R m++(gs++fV K R m fs n)))):St B w0 w (gs++(fs++kP K R m)):=by
 refine S.perm (List.perm_iff_count.2 λa=>?_);have h1:=List.perm_iff_count.1 (uO (λj=>jT K j (m.ah j) (R.nx j)) hn) a;unfold fV kP lg;simp only [List.count_append] at h1⊢;omega
open Classical in
theorem St.akX (hn:n<5) (S:St B w0 w (jT K n (m.ah n) (R.nx n)++(uy K R m++(gs++((N++(fs++(lg K R m n++R.L)))++E))))):St B w0 w (gs++((E++N)++(fs++kP K R m))):=by
 refine S.perm (List.perm_iff_count.2 λa=>?_);have h1:=List.perm_iff_count.1 (uO (λj=>jT K j (m.ah j) (R.nx j)) hn) a;unfold kP lg;simp only [List.count_append] at h1⊢;omega
open Classical in
theorem St.aCc (hn:n<5) (S:St B w0 w (gs++(N++(fs++kP K R m)))):St B w0 w (jT K n (m.ah n) (R.nx n)++(uy K R m++(gs++(N++(fs++(lg K R m n++R.L)))))):=by
 refine S.perm (List.perm_iff_count.2 λa=>?_);have h1:=List.perm_iff_count.1 (uO (λj=>jT K j (m.ah j) (R.nx j)) hn) a;unfold kP lg;simp only [List.count_append] at h1⊢;omega
open Classical in
theorem St.avl (S:St B w0 w (gs++(N++(fs++LC)))):St B w0 w ((gs++(N++LC))++fs):=by
 refine S.perm (List.perm_iff_count.2 λa=>?_);simp only [List.count_append];omega
theorem Oh (hl:ps.length=k) (h: ∀ j p,ps[j]? =some p->P1 L m j p) (hn:P1 L m k p): ∀ j q,(ps++[p])[j]? =some q->P1 L m j q:=λj q hq=>by
 by_cases e:j<ps.length
 ·rw [List.getElem?_append_left e] at hq;exact h j q hq
 rw [List.getElem?_append_right (by omega)] at hq;have:j-ps.length=0:=by
  have:=(List.getElem?_eq_some_iff.1 hq).1;rw [List.length_singleton] at this;omega
 rw [this] at hq
 cases hq;rw [show j=k by omega];exact hn
theorem apr (hk:k<5) (hz:R.nx k=z):Fact.own 43 6 (.slice (aD z.bb 0) 4 4) 4 (z.bx.flatMap BX.cells)∈kP K R m:=by
 subst hz;refine List.mem_append_right _ (List.mem_append_left _ (List.mem_flatMap.2 ⟨k,List.mem_range.2 hk,?_⟩));exact List.mem_cons_of_mem _ (List.mem_cons_self ..)
theorem ajs (h:dN K R.L k (m.ah k) (R.nx k)) (hX:m.ah k=X) (hz:R.nx k=z) (hu:X.up=true) (hk:k<5):P1 (N++kP K R m) m k (z.bb,z.bx):=by
 have ho:=apr (K:=K) (m:=m) hk hz;subst hX;subst hz;refine ⟨Ro.own (List.mem_append_right _ ho),?_,λy hy=>(h.R7 y hy).mono λf hf=>List.mem_append_right _ (List.mem_append_right _ (List.mem_append_right _ hf))⟩;rw [gK hu];exact h.Qi
theorem ajt (hm:bs.map BX.b=vB (bI X.data X.syn)) (hc: ∀ y∈bs,y.b.evs.length<=y.c) (hX:m.ah k=X) (hu:X.up=false):P1 ((Fact.own 43 6 (.slice (aD bB 0) 4 4) 4 (bs.flatMap BX.cells)::(fq bs++N))++LC) m k (bB,bs):=by
 subst hX;refine ⟨Ro.own (List.mem_append_left _ (List.mem_cons_self ..)),?_,λy hy=>(Oc hc y hy).mono λf hf=>List.mem_append_left _ (List.mem_cons_of_mem _ (List.mem_append_left _ hf))⟩;unfold Nd.view;rw [if_neg (by rw [hu];simp)];exact hm
theorem Sv (h: ∀ j,j<k->U j=(m.ah j).up) (hX:m.ah k=X): ∀ j,j<k+1->upd U k X.up j=(m.ah j).up:=λj hj=>by
 by_cases e:j=k
 ·rw [e,upd_same,hX]
 rw [upd_ne e];exact h j (by omega)
theorem aju {OA:Option Addr} {oc:Nat} (G:Good K R m H) (hl:ps.length=5) (hU: ∀ j,j<5->U j=(m.ah j).up) (hL:Fact.own 44 1 (.slice OA ps.length oc) ps.length (ps.flatMap gy)∈L) (hC: ∀ f∈kP K R m,f∈L) (hp: ∀ j p,ps[j]? =some p->P1 L m j p):
  VO L m (nL R.fx.length U m.off (.slice OA ps.length oc) (.slice R.sA m.aV.length R.sc) (.slice R.tA m.bL.length R.tc) m.calls):=by
 rw [hl] at hL⊢;have hf:R.fx.length=m.fly.length:=by rw [<-G.fly,List.length_map]
 have h1:Fact.own 150 14 (.slice R.sA m.aV.length R.sc) m.aV.length (m.aV.flatMap kH.cells)∈kP K R m:=List.mem_append_left _ (List.mem_cons_of_mem _ (List.mem_cons_of_mem _ (List.mem_cons_self ..)));have h2:Fact.own 103 7 (.slice R.tA m.bL.length R.tc) m.bL.length (m.bL.flatMap wE.cells)∈kP K R m:=List.mem_append_left _ (List.mem_cons_of_mem _ (List.mem_cons_of_mem _ (List.mem_cons_of_mem _ (List.mem_cons_self ..))));exact ⟨U,OA,oc,R.sA,R.sc,R.tA,R.tc,ps,by rw [hf],hU,hl,Ro.own hL,Ro.own (hC _ h1),Ro.own (hC _ h2),hp⟩
end
theorem abv {B:Nat} {w0 w:World} {fs:List Fact} {A:Option Addr} {c:Nat} {l:List Ac} (S:St B w0 w fs) (hu:Uk B w0) (Ar:Ro fs 11 A l.length (l.flatMap Ac.cells)) (hb:l.length*88<=reachBytes):
    Calls Tryz.prog 14 #[.slice A l.length c] w (λe w'=>(Bt l≠0->e= .returned (.tuple #[.agg ajq,iV (Bt l)])/\St B w0 w' fs)/\(Bt l=0-> ∃ row L,e= .returned (.tuple #[.agg row,iV 0])/\VO L (fG.run l) row/\St B w0 w' (L++fs))):=by
 have hb2:=hb;unfold reachBytes at hb2;refine gB 99 Tryz.func14 ?_;refine cw [0] ?_;refine zN 2 ?_;refine fF S QC ?_;intro b1 w2 S3;refine zN 8 ?_;by_cases h4:100000< ((l.length:Nat):Int)
 ·refine zN 7 ?_;refine sa 0 S3 tV ?_;intro w5 S6;refine zN 6 ?_;have S7:=S6.aR [0];have hsf:Bt l=1:=afz (by omega);refine ⟨λ_=>⟨by rw [hsf];rfl,S7⟩,λh=>?_⟩;rw [hsf] at h;exact absurd h (by first | decide | assumption)
 refine zN 15 ?_;refine dW (X:=Nat) (λxv=>[(0,.slice A l.length c),(2,pV b1 0),(3,iV 0),(18,.slice A l.length c),(19,iV ((l.length:Nat):Int)),(20,iV ((xv:Nat):Int))]) (λxv wr=>(xv<=l.length)/\(vK l=vK (l.drop xv))/\St B w0 wr ((.blk b1 #[iV 0,.bool false,.bool false,.bool false,.bool false,.bool false,iV 0,iV 0,iV 0,iV 0,iV 0,iV 0,iV 0,iV 0,.slice none 0 0,.slice none 0 0,.slice none 0 0,iV 0] 40)::fs)) (λxv=>l.length-xv) (0) ?_ ?_ ?_
 ·exact ⟨Nat.zero_le _,rfl,S3⟩
 ·exact ⟨rfl,rfl,rfl,rfl,rfl,rfl,trivial⟩
 rintro k1 w8 ⟨ni,QS,S9⟩
 try dsimp only at ni QS S9
 refine bC (l':=[(0,.slice A l.length c),(2,pV b1 0),(3,iV 0),(18,.slice A l.length c),(19,iV ((l.length:Nat):Int)),(20,iV ((k1:Nat):Int))]) ⟨rfl,rfl,rfl,rfl,rfl,rfl,trivial⟩ (aQ (aC ?_));by_cases h12:((k1:Nat):Int)< ((l.length:Nat):Int)
 ·refine zN 10 ?_;obtain ⟨x,hx⟩: ∃ x,l[k1]? =some x:=⟨_,List.getElem?_eq_getElem (by omega)⟩;obtain ⟨ab_,ao_,hAb⟩:=qA Ar S9 (memT 1 rfl dO) (by omega);refine zQ ?_;refine vv (v:=pV ab_ (ao_+k1*11)) (aT rfl rfl rfl (dK k1 hAb Tryz.underlying26 jY (by omega) (by omega))) ?_;refine vv (v:= .agg #[iV x.kd,iV x.nd,iV x.qu,iV x.at_,iV x.kp,iV x.ek,iV x.ep,iV x.ei,iV x.eb,iV x.eh,iV x.en]) (aj rfl rfl (aA (cs:=Ac.cells x) Tryz.underlying57 rfl jY rfl (λj u hu=>by rw [Nat.add_assoc];exact gu Ar hAb S9 (memT 1 rfl dO) (bg (enc:=Ac.cells) (sz:=11) (k:=k1) (λ_=>rfl) hx hu)))) ?_;refine fF S9 afU ?_;intro b13 Jk gI;refine sa 0 gI jY ?_;intro w16 lN;refine zN 5 ?_;refine cab aw1 lN (Qs x _) ?_;intro Ng lX;refine zN 6 ?_;by_cases h21:dH x=0
  ·refine zN 8 ?_;refine vv (v:=iV ((k1+1:Nat):Int)) gN ?_;refine zN 2 ?_;have iR:=lX.aR [0];refine aS (k1+1) ?_ ⟨rfl,rfl,rfl,rfl,rfl,rfl,trivial⟩ (by first | omega | (dsimp only;omega));exact ⟨(by omega),(by rw [QS];exact apo hx h21),iR⟩
  refine zN 8 ?_;refine sa 1 lX tV ?_;intro Jg jw;refine zN 10 ?_;have jv:=jw.aR [1,0];have hsf:Bt l=dH x:=by rw [O5 (by omega),QS];exact ajn hx h21
  refine ⟨λ_=>⟨by rw [hsf];rfl,jv⟩,λh=>?_⟩;rw [hsf] at h;exact absurd h (by first | decide | assumption)
 refine zN 12 ?_;have asJ:Bt l=0:=by rw [O5 (by omega),QS,List.drop_eq_nil_of_le (by omega)];rfl
 obtain ⟨aEc,hall⟩:=ajo asJ;refine dI aw2 (TY S9 hu) ?_;rintro _ Ni ⟨K,rfl,aCd⟩;refine ⟨_,rfl,?_⟩;have acf:Wd K B w0 Ni ((.blk b1 #[iV 0,.bool false,.bool false,.bool false,.bool false,.bool false,iV 0,iV 0,iV 0,iV 0,iV 0,iV 0,iV 0,iV 0,.slice none 0 0,.slice none 0 0,.slice none 0 0,iV 0] 40)::fs) fG []:=aCd;have rF:=Wd.top acf;obtain ⟨kw,bY⟩: ∃ b,K.wb=b:=⟨_,rfl⟩;obtain ⟨n,hn0⟩: ∃ n,n=0:=⟨_,rfl⟩;have hn:n<5:=by omega
 obtain ⟨kn,hkn⟩: ∃ b,K.nb n=b:=⟨_,rfl⟩;rw [bY];refine zN 12 ?_;refine dW (X:=Nat×Cl) (λxv=>[(2,pV b1 0),(3,iV 0),(7,pV kw 0),(32,.slice A l.length c),(33,iV ((l.length:Nat):Int)),(34,iV ((xv.1:Nat):Int))]) (λxv wr=>(Wd K B w0 wr ((.blk b1 #[iV 0,.bool false,.bool false,.bool false,.bool false,.bool false,iV 0,iV 0,iV 0,iV 0,iV 0,iV 0,iV 0,iV 0,.slice none 0 0,.slice none 0 0,.slice none 0 0,iV 0] 40)::fs) xv.2 [])/\(xv.2=fG.run (l.take xv.1))/\(Bs xv.2 xv.1)/\(ShN xv.2)/\(xv.1<=l.length)/\St B w0 wr ((.blk b1 #[iV 0,.bool false,.bool false,.bool false,.bool false,.bool false,iV 0,iV 0,iV 0,iV 0,iV 0,iV 0,iV 0,iV 0,.slice none 0 0,.slice none 0 0,.slice none 0 0,iV 0] 40)::fs)) (λxv=>l.length-xv.1) (0,fG) ?_ ?_ ?_
 ·exact ⟨acf,rfl,alS,λ_ _=>Int.le_refl _,Nat.zero_le _,Wd.top acf⟩
 ·exact ⟨rfl,rfl,rfl,rfl,rfl,rfl,trivial⟩
 rintro ⟨k2,mm⟩ Zz ⟨Q7,Iu,xD,Q5,amn,sH⟩
 try dsimp only at Q7 Iu xD Q5 amn sH
 refine bC (l':=[(2,pV b1 0),(3,iV 0),(7,pV kw 0),(32,.slice A l.length c),(33,iV ((l.length:Nat):Int)),(34,iV ((k2:Nat):Int))]) ⟨rfl,rfl,rfl,rfl,rfl,rfl,trivial⟩ ?_;obtain ⟨R3,G3,UM⟩:=Q7.open hn;have Sr:=G3.kW n hn;obtain ⟨X3,Bn⟩: ∃ X,mm.ah n=X:=⟨_,rfl⟩;obtain ⟨z3,hz3⟩: ∃ z,R3.nx n=z:=⟨_,rfl⟩;rw [Bn,hz3] at UM Sr;obtain ⟨YD,IY⟩: ∃ r,fV K R3 mm fs n=r:=⟨_,rfl⟩;have asK: ∀ f∈fs,f∈YD:=λf hf=>IY▸List.mem_append_left _ hf;have nT:St B w0 Zz (cN kn n X3 z3 z3.pv (cF kw R3 mm ((.blk b1 #[iV 0,.bool false,.bool false,.bool false,.bool false,.bool false,iV 0,iV 0,iV 0,iV 0,iV 0,iV 0,iV 0,iV 0,.slice none 0 0,.slice none 0 0,.slice none 0 0,iV 0] 40)::YD))):=by rw [<-IY];subst hkn;subst bY;exact UM
 clear UM;refine zN 2 ?_;by_cases h37:((k2:Nat):Int)< ((l.length:Nat):Int)
 ·refine zN 10 ?_;obtain ⟨x,hx⟩: ∃ x,l[k2]? =some x:=⟨_,List.getElem?_eq_getElem (by omega)⟩;obtain ⟨ab_,ao_,hAb⟩:=qA Ar nT (memT 8 rfl asK) (by omega);have hxa:=ab4 (hall x (List.mem_of_getElem? hx));refine zQ ?_;refine vv (v:=pV ab_ (ao_+k2*11)) (aT rfl rfl rfl (dK k2 hAb Tryz.underlying26 jY (by omega) (by omega))) ?_;refine vv (v:= .agg #[iV x.kd,iV x.nd,iV x.qu,iV x.at_,iV x.kp,iV x.ek,iV x.ep,iV x.ei,iV x.eb,iV x.eh,iV x.en]) (aj rfl rfl (aA (cs:=Ac.cells x) Tryz.underlying57 rfl jY rfl (λj u hu=>by rw [Nat.add_assoc];exact gu Ar hAb nT (memT 8 rfl asK) (bg (enc:=Ac.cells) (sz:=11) (k:=k2) (λ_=>rfl) hx hu)))) ?_;refine fF nT afU ?_;intro b38 ZF uj;refine sa 0 uj jY ?_;intro w41 pz;refine zN 5 ?_;have p9:=pz.aR [0];have aCe:=Wd.dJ (m:=mm) (m':=mm) (H:=[]) (H':=[]) (fs:=(.blk b1 #[iV 0,.bool false,.bool false,.bool false,.bool false,.bool false,iV 0,iV 0,iV 0,iV 0,iV 0,iV 0,iV 0,iV 0,.slice none 0 0,.slice none 0 0,.slice none 0 0,iV 0] 40)::fs) (X':=X3) (z':=z3) (Ls:=[]) (fA:=R3.fA) (fc:=R3.fc) (fx:=R3.fx) (sA:=R3.sA) (sc:=R3.sc) (tA:=R3.tA) (tc:=R3.tc) (rr:=(.blk b1 #[iV 0,.bool false,.bool false,.bool false,.bool false,.bool false,iV 0,iV 0,iV 0,iV 0,iV 0,iV 0,iV 0,iV 0,.slice none 0 0,.slice none 0 0,.slice none 0 0,iV 0] 40)::YD) hkn bY (by rw [<-IY];rfl) G3 hn p9 Sr.more (λu hu=> .inl hu) (aI Bn).symm G3.fly.symm mI;refine dI aw3 (afx (n:=x.nd.toNat) (q:=x.qu.toNat) (by have:=hxa.nd;omega) (by have:=hxa.qu;omega) (by have:=hxa.nd;omega) (by have:=hxa.qu;omega) rfl bY hu aCe xD (by omega) hxa Q5) ?_;rintro _ Yi ⟨rfl,amF⟩;refine ⟨_,rfl,?_⟩;have yU:=Wd.top amF;refine zN 4 ?_;refine vv (v:=iV ((k2+1:Nat):Int)) gN ?_;refine zN 2 ?_;refine aS (k2+1,mm.act x) ?_ ⟨rfl,rfl,rfl,rfl,rfl,rfl,trivial⟩ (by first | omega | (dsimp only;omega));exact ⟨amF,(by dsimp only;rw [ajp hx,afA,<-Iu]),(by dsimp only;exact Jp xD hxa (by omega)),(by dsimp only;exact ShN.act Q5),(by dsimp only;omega),(Wd.top amF)⟩
 refine zN 11 ?_;have hmm:mm=fG.run l:=by rw [Iu,List.take_of_length_le (by omega)]
 have qx:=xD;obtain ⟨R,G,S0⟩:=Q7.open hn;have NG:=G.kW n hn;obtain ⟨X,hX⟩: ∃ X,mm.ah n=X:=⟨_,rfl⟩;obtain ⟨z,hz⟩: ∃ z,R.nx n=z:=⟨_,rfl⟩;rw [hX,hz] at S0 NG;obtain ⟨rr,hrr⟩: ∃ r,fV K R mm fs n=r:=⟨_,rfl⟩;have hfr: ∀ f∈fs,f∈rr:=λf hf=>hrr▸List.mem_append_left _ hf;have wo:St B w0 Zz (cN kn n X z z.pv (cF kw R mm ((.blk b1 #[iV 0,.bool false,.bool false,.bool false,.bool false,.bool false,iV 0,iV 0,iV 0,iV 0,iV 0,iV 0,iV 0,iV 0,.slice none 0 0,.slice none 0 0,.slice none 0 0,iV 0] 40)::rr))):=by rw [<-hrr];subst hkn;subst bY;exact S0
 clear S0;have hcl:=qx.calls;have hfl:R.fx.length=mm.fly.length:=by rw [<-G.fly,List.length_map]
 refine zN 4 ?_;refine vv (v:= .agg (nL 0 (λ_=>false) (⟨⟨0,0⟩,⟨0,0⟩,⟨0,0⟩,⟨0,0⟩⟩:Dir) (.slice none 0 0) (.slice R.sA mm.aV.length R.sc) (.slice R.tA mm.bL.length R.tc) mm.calls)) (aj rfl rfl (aA (cs:=(nL 0 (λ_=>false) (⟨⟨0,0⟩,⟨0,0⟩,⟨0,0⟩,⟨0,0⟩⟩:Dir) (.slice none 0 0) (.slice R.sA mm.aV.length R.sc) (.slice R.tA mm.bL.length R.tc) mm.calls).toList) Tryz.underlying40 rfl tV rfl (St.rg 3 wo rfl ajr))) ?_;refine fF wo QC ?_;intro Mg Uu tZ;refine stA 0 tZ tV ?_ (h1:=by exact akV (fl:=0) (U:=(λ_=>false)) (d:=(⟨⟨0,0⟩,⟨0,0⟩,⟨0,0⟩,⟨0,0⟩⟩:Dir)) (bv:= .slice none 0 0) (sv:= .slice R.sA mm.aV.length R.sc) (tv:= .slice R.tA mm.bL.length R.tc) (calls:=mm.calls) rfl rfl rfl);intro w52 yR;refine zN 2 ?_;have mG:=yR.dU [4,1];refine zQ ?_;have uK:=mG.drew;refine aG 13 uK [0] ?_;refine aJ 3 ?_;refine ak (v:= .slice R.fA R.fx.length R.fc) 3 rfl (St.del 0 uK) (λ_ Zn=>(aj rfl rfl (ay Tryz.underlying73 rfl (St.cl 0 Zn rfl QX)))) ?_;refine aJ 4 ?_;refine ak (v:= .agg ((mm.off.cells).toArray)) 8 rfl (St.del 0 uK) (λ_ Zi=>(aj rfl rfl (aA (cs:=(mm.off.cells)) Tryz.underlying35 rfl oN rfl (St.rg 0 Zi rfl (xK))))) ?_;refine bZ ?_;refine aW 10 ?_;refine snz 10 rfl 0 uK mZ ?_ (hs:=by exact aCa);intro Ut uf;refine aJ 2 ?_;refine aW 12 ?_;refine snz 12 rfl 0 uf oN ?_ (h1:=vF _) (hs:=by exact aCb);intro w69 qc;refine aJ 2 ?_;refine zN 3 ?_;obtain ⟨ab,ao,qw⟩:=Bj G.arr qc (memT 9 rfl λf hf=>hrr▸List.mem_append_right _ (List.mem_append_right _ hf));refine zN 4 ?_;refine vv (v:= .slice R.nA 5 R.nc) (aj rfl rfl (ay Tryz.underlying72 rfl (St.cl 1 qc rfl zG))) ?_;refine zN 5 ?_;have rE:=qc.dU [7,7,7,4,7,7,7];have ES:=St.shut (gs:=[.blk Mg (nL R.fx.length (λ_=>false) mm.off (.slice none 0 0) (.slice R.sA mm.aV.length R.sc) (.slice R.tA mm.bL.length R.tc) mm.calls) 40,.blk b1 #[iV 0,.bool false,.bool false,.bool false,.bool false,.bool false,iV 0,iV 0,iV 0,iV 0,iV 0,iV 0,iV 0,iV 0,.slice none 0 0,.slice none 0 0,.slice none 0 0,iV 0] 40]) hn (by subst hkn;subst bY;rw [hX,hz,show fV K R mm fs n=rr from hrr];exact rE);have tH:=ES.nil 44 1;obtain ⟨LC,hLC⟩: ∃ f,f=kP K R mm:=⟨_,rfl⟩;obtain ⟨LF,hLF⟩: ∃ f,f=fs++LC:=⟨_,rfl⟩;rw [<-hLC,<-hLF] at tH;refine dW (X:=Nat×(Nat->Bool)×(List (Nat×List BX))×(Option Addr)×Nat×(List Fact)) (λxv=>[(2,pV b1 0),(3,iV 0),(10,pV Mg 0),(60,.slice R.nA 5 R.nc),(61,iV 5),(62,iV ((xv.1:Nat):Int))]) (λxv wr=>(xv.1<=5)/\(xv.2.2.1.length=xv.1)/\(∀ j p,xv.2.2.1[j]? =some p->P1 (xv.2.2.2.2.2++LC) mm j p)/\(∀ j,j<xv.1->xv.2.1 j=(mm.ah j).up)/\St B w0 wr ((.own 44 1 (.slice xv.2.2.2.1 xv.2.2.1.length xv.2.2.2.2.1) xv.2.2.1.length ((xv.2.2.1).flatMap gy))::(.blk Mg (nL R.fx.length xv.2.1 mm.off (.slice xv.2.2.2.1 xv.2.2.1.length xv.2.2.2.2.1) (.slice R.sA mm.aV.length R.sc) (.slice R.tA mm.bL.length R.tc) mm.calls) 40)::(.blk b1 #[iV 0,.bool false,.bool false,.bool false,.bool false,.bool false,iV 0,iV 0,iV 0,iV 0,iV 0,iV 0,iV 0,iV 0,.slice none 0 0,.slice none 0 0,.slice none 0 0,iV 0] 40)::(xv.2.2.2.2.2++LF))) (λxv=>5-xv.1) (0,(λ_=>false),[],none,0,[]) ?_ ?_ ?_
 ·exact ⟨Nat.zero_le _,rfl,(λj p hp=>by simp at hp),(λj hj=>absurd hj (Nat.not_lt_zero _)),tH⟩
 ·exact ⟨rfl,rfl,rfl,rfl,rfl,rfl,trivial⟩
 rintro ⟨k,U9,ps,OA,oc,N9⟩ w74 ⟨asL,abw,agz,agA,AL⟩
 try dsimp only at asL abw agz agA AL
 refine bC (l':=[(2,pV b1 0),(3,iV 0),(10,pV Mg 0),(60,.slice R.nA 5 R.nc),(61,iV 5),(62,iV ((k:Nat):Int))]) ⟨rfl,rfl,rfl,rfl,rfl,rfl,trivial⟩ ?_;have hk5:k<=5:=asL;refine zN 2 ?_;by_cases h80:((k:Nat):Int)<5
 ·refine zN 10 ?_;have hk4:k<5:=by omega
  have S9:=St.aCc (n:=k) (gs:=[.own 44 1 (.slice OA ps.length oc) ps.length ((ps).flatMap gy),.blk Mg (nL R.fx.length U9 mm.off (.slice OA ps.length oc) (.slice R.sA mm.aV.length R.sc) (.slice R.tA mm.bL.length R.tc) mm.calls) 40,.blk b1 #[iV 0,.bool false,.bool false,.bool false,.bool false,.bool false,iV 0,iV 0,iV 0,iV 0,iV 0,iV 0,iV 0,iV 0,.slice none 0 0,.slice none 0 0,.slice none 0 0,iV 0] 40]) (N:=N9) (fs:=fs) hk4 (by rw [<-hLC,<-hLF];exact AL);obtain ⟨X3,Bn⟩: ∃ X,mm.ah k=X:=⟨_,rfl⟩;obtain ⟨z3,hz3⟩: ∃ z,R.nx k=z:=⟨_,rfl⟩;obtain ⟨knk,agB⟩: ∃ b,K.nb k=b:=⟨_,rfl⟩;obtain ⟨rk,MW⟩: ∃ r,fs++(lg K R mm k++R.L)=r:=⟨_,rfl⟩;have Sr:=G.kW k hk4;rw [Bn,hz3] at S9 Sr;rw [MW] at S9;have hLk: ∀ f∈R.L,f∈rk:=λf hf=>MW▸List.mem_append_right _ (List.mem_append_right _ hf);have sF:St B w0 w74 (cN knk k X3 z3 z3.pv (cF kw R mm ((.own 44 1 (.slice OA ps.length oc) ps.length ((ps).flatMap gy))::(.blk Mg (nL R.fx.length U9 mm.off (.slice OA ps.length oc) (.slice R.sA mm.aV.length R.sc) (.slice R.tA mm.bL.length R.tc) mm.calls) 40)::(.blk b1 #[iV 0,.bool false,.bool false,.bool false,.bool false,.bool false,iV 0,iV 0,iV 0,iV 0,iV 0,iV 0,iV 0,iV 0,.slice none 0 0,.slice none 0 0,.slice none 0 0,iV 0] 40)::(N9++rk)))):=by subst agB;subst bY;exact S9
  clear S9;refine zN 2 ?_;refine vv (v:=pV ab (ao+k*1)) (aT rfl rfl rfl (dK k qw Tryz.underlying72 acB (by omega) (by omega))) ?_;refine vv (v:=pV knk 0) (aj rfl rfl (ay Tryz.underlying80 rfl (agB▸vH (qw▸G.arr) hk4 sF (memT 10 rfl λf hf=>List.mem_append_right _ (hLk f hf))))) ?_;refine zN 12 ?_;refine vv (v:=pV Mg (1+k*1)) (aT rfl rfl rfl (eZ k Tryz.underlying30 Ie rfl hk4)) ?_;refine EJ (cs:= #[.bool X3.up]) (row':=nL R.fx.length (upd U9 k X3.up) mm.off (.slice OA ps.length oc) (.slice R.sA mm.aV.length R.sc) (.slice R.tA mm.bL.length R.tc) mm.calls) (fs':=(_::_::_::_::_::_::_::_::(.blk Mg (nL R.fx.length (upd U9 k X3.up) mm.off (.slice OA ps.length oc) (.slice R.sA mm.aV.length R.sc) (.slice R.tA mm.bL.length R.tc) mm.calls) 40)::_::(N9++rk))) 8 sF (wn rfl) rfl rfl rfl rfl rfl rfl Ie rfl (bX rfl) (by show 1+k*1+1<=18;omega) (avk hk4 (v:=X3.up)) rfl ?_;intro w82 AU;refine zN 13 ?_
  rcases hup:X3.up with _ | _
  ·refine zN 4 ?_;refine vv (v:= .bool false) (N8 hup (aj rfl rfl (ay Tryz.underlying4 rfl (St.cl 0 AU rfl rfl)))) ?_;refine zN 8 ?_;refine vv (aj rfl rfl (aA (cs:=[.slice z3.tA X3.data.length z3.tc,iV X3.syn]) Tryz.underlying83 rfl fB rfl (St.rg 0 AU rfl (rJ)))) ?_;have hrd:=(qx.kW k hk4).LY;rw [Bn] at hrd;refine dI apG (Ho z3.tA z3.tc X3.data X3.syn _ (Sr.xL.rd AU (memT 10 rfl λf hf=>List.mem_append_right _ (hLk f hf))) hrd.1 hrd.2.2.1) ?_;rintro _ w87 ⟨A84,c85,bB,bs,hbm,hbl,hbc,rfl,T86⟩;refine ⟨_,rfl,?_⟩;have Jj:=AU.ext T86 (by simp [JY,Fact.Hr]);have Jc:St B w0 w87 ((oB bB bs)::(.cu 1 A84 ((jD X3.data X3.syn).1.length) (byteCells ((jD X3.data X3.syn).1)))::(cN knk k X3 z3 z3.pv (cF kw R mm ((.own 44 1 (.slice OA ps.length oc) ps.length ((ps).flatMap gy))::(.blk Mg (nL R.fx.length (upd U9 k X3.up) mm.off (.slice OA ps.length oc) (.slice R.sA mm.aV.length R.sc) (.slice R.tA mm.bL.length R.tc) mm.calls) 40)::(.blk b1 #[iV 0,.bool false,.bool false,.bool false,.bool false,.bool false,iV 0,iV 0,iV 0,iV 0,iV 0,iV 0,iV 0,iV 0,.slice none 0 0,.slice none 0 0,.slice none 0 0,iV 0] 40)::((N9++rk)++fq bs))))):=St.perm Jj (List.Perm.cons _ (List.Perm.cons _ (List.perm_append_comm (l₁:=fq bs))));clear AU;refine zN 10 ?_;refine bsI Jc ?_;intro b90 w91 yS;refine dY (news:=[.slice (aD bB 0) 4 4]) (xs':=((ps++[(bB,bs)])).flatMap gy) 10 yS (wn rfl) rfl rfl rfl rfl rfl rfl (St.lV (xs:=[.slice (aD bB 0) 4 4]) 0 yS rfl rfl rfl) Tryz.underlying36 acz rfl (by decide) (bX rfl) (by simp only [maxLen];omega) (by omega) (jM (enc:=gy) rfl rfl) ?_;intro A93 c94 w95 aI2 aI3 zl;refine zQ ?_;refine jq 11 zl abP ?_ (hs:=by exact akW);intro w99 rV;refine zN 4 ?_;refine vv (v:=iV ((k+1:Nat):Int)) gN ?_;refine zN 2 ?_;have vU:=rV.aR [2,0];have sO:=vU.dU [0,10,10,10,10,10,10,10,10,10,10];have qI:St B w0 w99 ((.own 44 1 (.slice A93 (ps.length+1) c94) (ps.length+1) (((ps++[(bB,bs)])).flatMap gy))::(.blk Mg (nL R.fx.length (upd U9 k X3.up) mm.off (.slice A93 (ps.length+1) c94) (.slice R.sA mm.aV.length R.sc) (.slice R.tA mm.bL.length R.tc) mm.calls) 40)::(.blk b1 #[iV 0,.bool false,.bool false,.bool false,.bool false,.bool false,iV 0,iV 0,iV 0,iV 0,iV 0,iV 0,iV 0,iV 0,.slice none 0 0,.slice none 0 0,.slice none 0 0,iV 0] 40)::(((oB bB bs)::(fq bs++N9))++LF)):=by
    rw [hLF,hLC];exact St.akX (n:=k) (gs:=[.own 44 1 (.slice A93 (ps.length+1) c94) (ps.length+1) (((ps++[(bB,bs)])).flatMap gy),.blk Mg (nL R.fx.length (upd U9 k X3.up) mm.off (.slice A93 (ps.length+1) c94) (.slice R.sA mm.aV.length R.sc) (.slice R.tA mm.bL.length R.tc) mm.calls) 40,.blk b1 #[iV 0,.bool false,.bool false,.bool false,.bool false,.bool false,iV 0,iV 0,iV 0,iV 0,iV 0,iV 0,iV 0,iV 0,.slice none 0 0,.slice none 0 0,.slice none 0 0,iV 0] 40,.own 43 6 (.slice (aD bB 0) 4 4) 4 ((bs).flatMap BX.cells)]) (N:=N9) (E:=fq bs) (fs:=fs) hk4 (by subst agB;subst bY;rw [Bn,hz3];rw [<-MW] at sO;exact sO)
   have UN:ps.length+1=(ps++[(bB,bs)]).length:=by simp
   rw [UN] at qI;refine aS (k+1,upd U9 k X3.up,(ps++[(bB,bs)]),A93,c94,(.own 43 6 (.slice (aD bB 0) 4 4) 4 ((bs).flatMap BX.cells)::(fq bs++N9))) ?_ ⟨rfl,rfl,rfl,rfl,rfl,rfl,trivial⟩ (by first | omega | (dsimp only;omega));exact ⟨(by dsimp only;omega),(by dsimp only;rw [List.length_append,abw];rfl),(by dsimp only;exact Oh abw (λj p hp=>(agz j p hp).mono (λf hf=>(List.mem_append.1 hf).elim (λh=>List.mem_append_left _ (List.mem_cons_of_mem _ (List.mem_append_right _ h))) λh=>List.mem_append_right _ h)) (ajt hbm hbc Bn hup)),(by dsimp only;exact Sv agA Bn),qI⟩
  refine zN 4 ?_;refine vv (v:= .bool true) (N8 hup (aj rfl rfl (ay Tryz.underlying4 rfl (St.cl 0 AU rfl rfl)))) ?_;refine zN 10 ?_;refine bsI AU ?_;intro aI4 ar1 Cq;refine dY (news:=[.slice (aD z3.bb 0) 4 4]) (xs':=((ps++[(z3.bb,z3.bx)])).flatMap gy) 8 Cq (wn rfl) rfl rfl rfl rfl rfl rfl (St.lV (xs:=[.slice (aD z3.bb 0) 4 4]) 0 Cq rfl rfl rfl) Tryz.underlying36 acz rfl (by decide) (bX rfl) (by simp only [maxLen];omega) (by omega) (jM (enc:=gy) rfl rfl) ?_;intro Vz VA Zj aEd aEe pJ;refine zQ ?_;refine jq 9 pJ abP ?_ (hs:=by exact akW);intro af8 xH;refine zN 4 ?_;refine vv (v:=iV ((k+1:Nat):Int)) gN ?_;refine zN 2 ?_;have nY:=xH.aR [0];have sP:=nY.dU [9,9,9,9,9,9,9,9,9,9];have zH:St B w0 af8 ((.own 44 1 (.slice Vz (ps.length+1) VA) (ps.length+1) (((ps++[(z3.bb,z3.bx)])).flatMap gy))::(.blk Mg (nL R.fx.length (upd U9 k X3.up) mm.off (.slice Vz (ps.length+1) VA) (.slice R.sA mm.aV.length R.sc) (.slice R.tA mm.bL.length R.tc) mm.calls) 40)::(.blk b1 #[iV 0,.bool false,.bool false,.bool false,.bool false,.bool false,iV 0,iV 0,iV 0,iV 0,iV 0,iV 0,iV 0,iV 0,.slice none 0 0,.slice none 0 0,.slice none 0 0,iV 0] 40)::(N9++LF)):=by
   rw [hLF,hLC];exact St.akX (n:=k) (gs:=[.own 44 1 (.slice Vz (ps.length+1) VA) (ps.length+1) (((ps++[(z3.bb,z3.bx)])).flatMap gy),.blk Mg (nL R.fx.length (upd U9 k X3.up) mm.off (.slice Vz (ps.length+1) VA) (.slice R.sA mm.aV.length R.sc) (.slice R.tA mm.bL.length R.tc) mm.calls) 40,.blk b1 #[iV 0,.bool false,.bool false,.bool false,.bool false,.bool false,iV 0,iV 0,iV 0,iV 0,iV 0,iV 0,iV 0,iV 0,.slice none 0 0,.slice none 0 0,.slice none 0 0,iV 0] 40]) (N:=N9) (E:=[]) (fs:=fs) hk4 (by subst agB;subst bY;rw [Bn,hz3,List.append_nil];rw [<-MW] at sP;exact sP)
  have UN:ps.length+1=(ps++[(z3.bb,z3.bx)]).length:=by simp
  rw [UN] at zH;refine aS (k+1,upd U9 k X3.up,(ps++[(z3.bb,z3.bx)]),Vz,VA,N9) ?_ ⟨rfl,rfl,rfl,rfl,rfl,rfl,trivial⟩ (by first | omega | (dsimp only;omega));exact ⟨(by dsimp only;omega),(by dsimp only;rw [List.length_append,abw];rfl),(by dsimp only;exact Oh abw (λj p hp=>(agz j p hp).mono (λf hf=>hf)) (hLC▸ajs (G.kW k hk4) Bn hz3 hup hk4)),(by dsimp only;exact Sv agA Bn),zH⟩
 refine zN 13 ?_;refine stA 2 AL tV ?_ (h1:=by exact akV (fl:=R.fx.length) (U:=U9) (d:=mm.off) (bv:= .slice OA ps.length oc) (sv:= .slice R.sA mm.aV.length R.sc) (tv:= .slice R.tA mm.bL.length R.tc) (calls:=mm.calls) rfl rfl rfl);intro agn qJ;refine zN 5 ?_;have hsf:Bt l=0:=asJ;refine ⟨λh=>absurd hsf h,λ_=>?_⟩;have oF:=qJ.aR [2,1];have h5:k=5:=by omega
 rw [hLF] at oF;refine ⟨_,[.own 44 1 (.slice OA ps.length oc) ps.length ((ps).flatMap gy)]++(N9++LC),rfl,?_,St.avl (gs:=[.own 44 1 (.slice OA ps.length oc) ps.length ((ps).flatMap gy)]) (N:=N9) (fs:=fs) (LC:=LC) oF⟩;rw [<-hmm];exact aju (ps:=ps) G (by omega) (λj hj=>agA j (by omega)) (List.mem_append_left _ (List.mem_singleton.2 rfl)) (λf hf=>List.mem_append_right _ (List.mem_append_right _ (hLC▸hf))) (λj p hp=>(agz j p hp).mono λf hf=>List.mem_append_right _ hf)
theorem apu {B:Nat} {w0 w:World} {fs:List Fact} {A:Option Addr} {c:Nat} {l:List Ac} (h0:Bt l=0) (S:St B w0 w fs) (hu:Uk B w0) (Ar:Ro fs 11 A l.length (l.flatMap Ac.cells)) (hb:l.length*88<=reachBytes):
  Calls Tryz.prog 14 #[.slice A l.length c] w (λe w'=> ∃ row L,e= .returned (.tuple #[.agg row,iV 0])/\VO L (fG.run l) row/\St B w0 w' (L++fs)):=(abv S hu Ar hb).mono λ_ _ h=>h.2 h0
structure OX where
 fl:Nat
 U:Nat->Bool
 d:Dir
 BA:Option Addr
 bc:Nat
 sA:Option Addr
 sn:Nat
 sc:Nat
 tA:Option Addr
 tn:Nat
 tc:Nat
 calls:Nat
def OX.cells (x:OX):List Value:=Fy x.fl x.U x.d (.slice x.BA 5 x.bc) (.slice x.sA x.sn x.sc) (.slice x.tA x.tn x.tc) x.calls
structure Gj (L:List Fact) (m:Cl) (x:OX):Prop where
 up: ∀ j,j<5->x.U j=(m.ah j).up
 d:x.d=m.off
 fl:x.fl=m.fly.length
 sn:x.sn=m.aV.length
 tn:x.tn=m.bL.length
 calls:x.calls=m.calls
 ps: ∃ ps:List (Nat×List BX),ps.length=5/\Ro L 1 x.BA 5 (ps.flatMap gy)/\ ∀ j p,ps[j]? =some p->P1 L m j p
 aV:Ro L 14 x.sA x.sn (m.aV.flatMap kH.cells)
 bL:Ro L 7 x.tA x.tn (m.bL.flatMap wE.cells)
theorem VO.x {L:List Fact} {m:Cl} {row:Array Value} (h:VO L m row): ∃ x:OX,row=x.cells.toArray/\Gj L m x:=by
 obtain ⟨U,BA,bc,sA,sc,tA,tc,ps,rfl,hU,hl,hB,hs,ht,hP⟩:=h;exact ⟨⟨m.fly.length,U,m.off,BA,bc,sA,m.aV.length,sc,tA,m.bL.length,tc,m.calls⟩,rfl,hU,rfl,rfl,rfl,rfl,rfl,⟨ps,hl,hB,hP⟩,hs,ht⟩
theorem Gj.mono {L L':List Fact} {m:Cl} {x:OX} (h:Gj L m x) (hl: ∀ f∈L,f∈L'):Gj L' m x:=by
 obtain ⟨h1,h2,h3,h4,h5,h6,⟨ps,h7,h8,h9⟩,h10,h11⟩:=h;exact ⟨h1,h2,h3,h4,h5,h6,⟨ps,h7,h8.mono hl,λj p hj=>(h9 j p hj).mono hl⟩,h10.mono hl,h11.mono hl⟩
def YF (B:Nat) (w0:World) (fs:List Fact) (l:List Ac) (e:Ending) (w':World):Prop:= ∃ x L,e= .returned (.tuple #[.agg (OX.cells x).toArray,.bool true])/\Gj L (fG.run l) x/\St B w0 w' (L++fs)
theorem ajv {α:Type} {l:List α} (h:l.length=5): ∃ a b c d e,l=[a,b,c,d,e]:=by
 match l,h with
 | [a,b,c,d,e],_=>exact ⟨a,b,c,d,e,rfl⟩
theorem abx {B:Nat} {w0 w:World} {fs:List Fact} {A:Option Addr} {c:Nat} {l:List Ac} (h0:Bt l=0) (S:St B w0 w fs) (hu:Uk B w0) (Ar:Ro fs 11 A l.length (l.flatMap Ac.cells)) (hb:l.length*88<=reachBytes):
    Calls Tryz.prog 12 #[.slice A l.length c] w (YF B w0 fs l):=by
 refine gB 28 Tryz.func12 ?_;refine cw [0] ?_;refine zN 2 ?_;refine fF S QC ?_;intro b1 w2 S3;refine zN 6 ?_;refine dI awZ (apu h0 S3 hu (Ar.mono (memT 1 rfl dO)) hb) ?_;rintro _ w4 ⟨aI5,L8,rfl,hO9,S5⟩;refine ⟨_,rfl,?_⟩;obtain ⟨x,rfl,hX⟩:=VO.x hO9;obtain ⟨ps,hpl,Fz,hP⟩:=hX.ps;obtain ⟨p0,p1,p2,p3,p4,rfl⟩:=ajv hpl;have S6:=S5.perm (List.perm_middle (a:= .blk b1 #[iV 0,.bool false,.bool false,.bool false,.bool false,.bool false,iV 0,iV 0,iV 0,iV 0,iV 0,iV 0,iV 0,iV 0,.slice none 0 0,.slice none 0 0,.slice none 0 0,iV 0] 40) (l₁:=L8) (l₂:=fs));have pE: ∀ f∈L8,f∈L8++fs:=λf h=>List.mem_append_left _ h;obtain ⟨bA,oA,hBa⟩:=qA Fz S6 (memT 1 rfl pE) (by decide);refine zN 3 ?_;refine fF S6 QC ?_;intro b10 Jd mF;refine stA 0 mF tV ?_;intro Dr kg;refine zN 4 ?_;have gI:=kg.drew;refine aG 19 gI [1] ?_;refine aJ 12 ?_;refine jJ (v:= .pointer (some ⟨bA,oA+0*1,none⟩)) (i:=12) (n:=6) rfl (by kernel_rfl) (by kernel_rfl) (by kernel_rfl) (St.del 1 gI) rfl (wg rfl rfl rfl rfl) rfl rfl (λ_ _=>(aT rfl rfl rfl (dK 0 hBa Tryz.underlying36 tX (by decide) (by decide)))) ?_;refine jJ (v:= .slice (some ⟨p0.1,0,none⟩) 4 4) (i:=13) (n:=5) rfl (by kernel_rfl) (by kernel_rfl) (by kernel_rfl) (St.del 1 gI) rfl (wg rfl rfl rfl rfl) rfl rfl (λ_ aa0=>(aj rfl rfl (ay Tryz.underlying44 rfl (gu Fz hBa aa0 (memT 1 rfl pE) rfl)))) ?_;refine aJ 3 ?_;refine aW 17 ?_;refine Zd 17 rfl 1 gI tV ?_;intro Zg qG;refine aJ 3 ?_;refine zN 3 ?_;have nT:=qG.aR [1,0];exact ⟨x,L8,rfl,hX,nT⟩
def Sw (b:bK):Bool:=decide (b.role=1\/b.role=2)
theorem Oi {b:bK}:Sw b=true↔serves b:=by unfold Sw serves;simp
theorem FB {L:List Fact} {m:Cl} {j q:Nat} {p:Nat×List BX} (h:P1 L m j p) (hq:q<4): ∃ y,p.2[q]? =some y/\y.b=(m.ah j).view q:=by
 have hb:=h.bm;have hv:(vB (m.ah j).view)[q]? =some ((m.ah j).view q):=by
  have h4:q=0\/q=1\/q=2\/q=3:=by omega
  rcases h4 with rfl | rfl | rfl | rfl<;>rfl
 rw [<-hb,List.getElem?_map] at hv
 cases h1:p.2[q]? with
 | none=>rw [h1] at hv;cases hv
 | some y=>rw [h1] at hv;exact ⟨y,rfl,Option.some.inj hv⟩
theorem lC (y:BX) (w:World):
    Calls tP 10 #[.agg (bR y.b y.A y.c)] w (λe w'=>e= .returned (.bool (Sw y.b))/\Below w.heap.size w w'):=by
 have S:=St.start w;refine GD (N:=11) (vs:=[.agg (bR y.b y.A y.c)]) Tryz.func10 rfl rfl rfl ?_;refine cw [0] ?_;refine axq (nb (row:=(bR y.b y.A y.c)) S ?_);intro b1 w2 S3;clear S;refine va ?_;refine qk [1,2] ?_;refine Vd (vv (vN 0 M8) ?_);refine vv (aj rfl rfl (ay Tryz.underlying3 rfl (St.cl 0 S3 rfl rfl))) ?_;by_cases h4:y.b.role=1
 ·refine vv (ajZ h4) ?_;refine vm ?_;iterate 3 refine vs ?_
  refine vv ypT ?_;refine va ?_;refine qk [2] ?_;refine alb (pt ?_);rw [show Sw y.b=true from by unfold Sw;first | exact decide_eq_true (by omega) | exact decide_eq_false (by omega)];exact ⟨rfl,S3.low⟩
 refine vv (abV h4) ?_;refine vm ?_;refine vg (vN 0 M8) ?_;refine vg (aj rfl rfl (ay Tryz.underlying3 rfl (St.cl 0 S3 rfl rfl))) ?_;by_cases h5:y.b.role=2
 ·refine vg (ajZ h5) ?_;refine vv ypF ?_;refine va ?_;refine qk [2] ?_;refine alb (pt ?_);rw [show Sw y.b=true from by unfold Sw;first | exact decide_eq_true (by omega) | exact decide_eq_false (by omega)];exact ⟨rfl,S3.low⟩
 refine vg (abV h5) ?_;refine vv ypF ?_;refine va ?_;refine qk [2] ?_;refine alb (pt ?_);rw [show Sw y.b=false from by unfold Sw;first | exact decide_eq_true (by omega) | exact decide_eq_false (by omega)];exact ⟨rfl,S3.low⟩
def og (b:bK):Prop:=serves b\/b.role=3
structure Au (m:Cl) (q o:Nat):Prop where
 lt:o<5
 me:og ((m.ah o).view q)
 uN: ∀ n,n<5->n≠o->og ((m.ah n).view q)->((m.ah n).view q).ep< ((m.ah o).view q).ep
def xU (m:Cl) (q o n:Nat) (a:Int) (one:Bool):Prop:=(a= -1/\ ∀ j,j<n-> ¬ og ((m.ah j).view q))\/ ∃ k:Nat,a=((k:Nat):Int)/\k<n/\og ((m.ah k).view q)/\(∀ j,j<n->og ((m.ah j).view q)->((m.ah j).view q).ep<=((m.ah k).view q).ep)/\(o<n->k=o/\one=true)
section
variable {m:Cl} {q o n:Nat} {a:Int} {one:Bool}
theorem xU.first (h:xU m q o n a one) (hA:Au m q o) (ha:a<0) (hc:og ((m.ah n).view q)):xU m q o (n+1) ((n:Nat):Int) true:=by
 rcases h with ⟨h1,h2⟩ | ⟨k,h1,h2,h3,h4,h5⟩
 ·exact .inr ⟨n,rfl,by omega,hc,λj hj hcj=>(Nat.lt_succ_iff_lt_or_eq.1 hj).elim (λh=>absurd hcj (h2 j h)) (λe=>e▸Int.le_refl _),λh=>⟨(Nat.lt_succ_iff_lt_or_eq.1 h).elim (λh=>absurd hA.me (h2 o h)) Eq.symm,rfl⟩⟩
 omega
theorem xU.more {k:Nat} (h:xU m q o n ((k:Nat):Int) one) (hA:Au m q o) (hn:n<5) (hc:og ((m.ah n).view q)) (hg:((m.ah k).view q).ep< ((m.ah n).view q).ep):xU m q o (n+1) ((n:Nat):Int) true:=by
 rcases h with ⟨h1,h2⟩ | ⟨k',h1,h2,h3,h4,h5⟩
 ·omega
 obtain rfl:k=k':=by omega
 refine .inr ⟨n,rfl,by omega,hc,λj hj hcj=>(Nat.lt_succ_iff_lt_or_eq.1 hj).elim (λh=>by have:=h4 j h hcj;omega) (λe=>e▸Int.le_refl _),λh=>⟨?_,rfl⟩⟩
 rcases Nat.lt_succ_iff_lt_or_eq.1 h with h | h
 ·exfalso
  obtain ⟨rfl,_⟩:=h5 h;by_cases e:n=k
  ·omega
  have:=hA.uN n hn e hc;omega
 exact h.symm
theorem xU.done (h:xU m q o 5 a one) (hA:Au m q o):a=((o:Nat):Int)/\one=true:=by
 rcases h with ⟨h1,h2⟩ | ⟨k,h1,h2,h3,h4,h5⟩
 ·exact absurd hA.me (h2 o hA.lt)
 obtain ⟨rfl,h6⟩:=h5 hA.lt;exact ⟨h1,h6⟩
end
theorem afB {l:List Ac} (h: ∀ a∈l,dH a=0) (hl:l.length<=1000):Bt l=0:=by
 rw [O5 (by omega)];clear hl
 induction l with
 | nil=>rfl
 | cons a l ih=>rw [vK,if_neg (by rw [h a List.mem_cons_self];simp),ih λx hx=>h x (List.mem_cons_of_mem _ hx)]
theorem afC {B k:Nat} {w0 w:World} {fs gs:List Fact} {A:Option Addr} {l:List Ac} (hk:k<=l.length) (hl:l.length<=1000) (h0: ∀ a∈l,dH a=0) (S:St B w0 w fs) (hu:Uk B w0) (hA:Ro gs 11 A k ((l.take k).flatMap Ac.cells)) (hgs: ∀ f∈gs,f∈fs):
  Calls Tryz.prog 12 #[.slice A k k] w (YF B w0 fs (l.take k)):=by
 have hn:(l.take k).length=k:=by rw [List.length_take];omega
 have h:=abx (c:=k) (l:=l.take k) (A:=A) (afB (λa ha=>h0 a (List.mem_of_mem_take ha)) (by omega)) S hu;rw [hn] at h;exact h (hA.mono hgs) (by unfold reachBytes;omega)
theorem afD {xs:List OX} {LL L1:List Fact} {l:List Ac} {k:Nat} {x:OX} (h0:xs.length=k) (h: ∀ j y,xs[j]? =some y->Gj LL (fG.run (l.take j)) y) (hx:Gj L1 (fG.run (l.take k)) x): ∀ j y,(xs++[x])[j]? =some y->Gj (L1++LL) (fG.run (l.take j)) y:=by
 intro j y hj
 rcases Nat.lt_or_ge j xs.length with h1 | h1
 ·rw [List.getElem?_append_left h1] at hj;exact (h j y hj).mono λf hf=>List.mem_append_right _ hf
 rw [List.getElem?_append_right h1] at hj;have h2:j-xs.length=0:=by
  have:=(List.getElem?_eq_some_iff.1 hj).1;simp at this;omega
 rw [h2] at hj
 cases hj;obtain rfl:j=k:=by omega
 exact hx.mono λf hf=>List.mem_append_left _ hf
def ajw (B:Nat) (w0:World) (fs:List Fact) (l:List Ac) (e:Ending) (w':World):Prop:= ∃ (xs:List OX) (L:List Fact) (A':Option Addr) (c':Nat),e= .returned (.tuple #[.slice A' (l.length+1) c',.bool true])/\xs.length=l.length+1/\(∀ k x,xs[k]? =some x->Gj L (fG.run (l.take k)) x)/\St B w0 w' (.own 40 18 (.slice A' (l.length+1) c') (l.length+1) (xs.flatMap OX.cells)::(L++fs))
theorem u6 {B:Nat} {w0 w:World} {fs:List Fact} {A:Option Addr} {c:Nat} {l:List Ac} (hl:l.length<=1000) (hc:l.length<=c) (h0: ∀ a∈l,dH a=0) (S:St B w0 w fs) (hu:Uk B w0) (Ar:Ro fs 11 A l.length (l.flatMap Ac.cells)):
    Calls Tryz.prog 7 #[.slice A l.length c] w (ajw B w0 fs l):=by
 refine gB 29 Tryz.func7 ?_;refine cw [0] ?_;refine zN 7 ?_;have S1:=S.nil 40 18;change St _ _ _ ((.own 40 18 (.slice none 0 0) 0 ((([]:List OX)).flatMap OX.cells))::fs) at S1;refine zN 11 ?_;refine dW (X:=Nat×(Option Addr)×Nat×(List OX)×(List Fact)) (λxv=>[(0,.slice A l.length c),(2,.slice none 0 0),(3,.bool false),(4,.slice xv.2.1 xv.1 xv.2.2.1),(5,iV ((xv.1:Nat):Int))]) (λxv wr=>(xv.1<=l.length+1)/\(xv.2.2.2.1.length=xv.1)/\(∀ j y,xv.2.2.2.1[j]? =some y->Gj xv.2.2.2.2 (fG.run (l.take j)) y)/\St B w0 wr ((.own 40 18 (.slice xv.2.1 xv.1 xv.2.2.1) xv.1 ((xv.2.2.2.1).flatMap OX.cells))::(xv.2.2.2.2++fs))) (λxv=>l.length+1-xv.1) (0,none,0,[],[]) ?_ ?_ ?_
 ·exact ⟨Nat.zero_le _,rfl,(λj y h=>by simp at h),S1⟩
 ·exact ⟨rfl,rfl,rfl,rfl,rfl,trivial⟩
 rintro ⟨k,Ab,cb,xs,LL⟩ w2 ⟨hi4,hi5,Fu,S3⟩
 try dsimp only at hi4 hi5 Fu S3
 refine bC (l':=[(0,.slice A l.length c),(2,.slice none 0 0),(3,.bool false),(4,.slice Ab k cb),(5,iV ((k:Nat):Int))]) ⟨rfl,rfl,rfl,rfl,rfl,trivial⟩ (aQ (aQ (aC (vm ?_))));refine zN 2 ?_;by_cases h7:((k:Nat):Int)<=((l.length:Nat):Int)
 ·refine zN 9 ?_;obtain ⟨A2,hs,hr,-⟩:=BM (P:=Tryz.prog) (t:=26) (enc:=Ac.cells) (s:=11) (λ_=>rfl) (A:=A) (b:=l) (n:=l.length) (c:=c) (lo:=none) (hi:=(some (iV ((k:Nat):Int)))) (mx:=(some (iV ((k:Nat):Int)))) (l:=0) (k:=k) (q:=k) (m:=k) (c':=k) Tryz.underlying26 jY (abO k k rfl rfl (by omega) (by omega)) (by omega) (by omega) (by omega) (by omega) (by omega);have hA2:Ro fs 11 A2 k ((l.take k).flatMap Ac.cells):=λB w hw=>hr w _ (Ar B w hw);refine zN 4 ?_;refine vv (v:= .slice A2 k k) (jE rfl rfl l8 (iW rfl) (iW rfl) (hs _)) ?_;refine dI awY (afC (by omega) hl h0 S3 hu hA2 (λf hf=>List.mem_cons_of_mem _ (List.mem_append_right _ hf))) ?_;rintro _ w8 ⟨gY,L12,rfl,aCf,S9⟩;refine ⟨_,rfl,?_⟩;have oC:=S9.perm (List.perm_middle (a:= .own 40 18 (.slice Ab k cb) k ((xs).flatMap OX.cells)) (l₁:=L12) (l₂:=LL++fs));rw [<-List.append_assoc] at oC;refine zN 3 ?_;refine fF oC QC ?_;intro b14 G8 kQ;refine stA 0 kQ tV ?_;intro Ku jc;refine zN 16 ?_;refine mD (V:=λb=> .slice (some ⟨b,0,none⟩) 1 1) (row:= #[iV ((gY.fl:Nat):Int),.bool (gY.U 0),.bool (gY.U 1),.bool (gY.U 2),.bool (gY.U 3),.bool (gY.U 4),iV gY.d.p0.node,iV gY.d.p0.epoch,iV gY.d.p1.node,iV gY.d.p1.epoch,iV gY.d.p2.node,iV gY.d.p2.epoch,iV gY.d.p3.node,iV gY.d.p3.epoch,.slice gY.BA 5 gY.bc,.slice gY.sA gY.sn gY.sc,.slice gY.tA gY.tn gY.tc,iV ((gY.calls:Nat):Int)]) (t:=40) jc (wn rfl) rfl rfl (aU (vs:=[(0,.agg #[iV ((gY.fl:Nat):Int),.bool (gY.U 0),.bool (gY.U 1),.bool (gY.U 2),.bool (gY.U 3),.bool (gY.U 4),iV gY.d.p0.node,iV gY.d.p0.epoch,iV gY.d.p1.node,iV gY.d.p1.epoch,iV gY.d.p2.node,iV gY.d.p2.epoch,iV gY.d.p3.node,iV gY.d.p3.epoch,.slice gY.BA 5 gY.bc,.slice gY.sA gY.sn gY.sc,.slice gY.tA gY.tn gY.tc,iV ((gY.calls:Nat):Int)])]) rfl ⟨rfl,rfl,trivial⟩ (by kernel_rfl)) ?_;intro b19 Ux rG;clear jc;refine dY (news:=[iV ((gY.fl:Nat):Int),.bool (gY.U 0),.bool (gY.U 1),.bool (gY.U 2),.bool (gY.U 3),.bool (gY.U 4),iV gY.d.p0.node,iV gY.d.p0.epoch,iV gY.d.p1.node,iV gY.d.p1.epoch,iV gY.d.p2.node,iV gY.d.p2.epoch,iV gY.d.p3.node,iV gY.d.p3.epoch,.slice gY.BA 5 gY.bc,.slice gY.sA gY.sn gY.sc,.slice gY.tA gY.tn gY.tc,iV ((gY.calls:Nat):Int)]) (xs':=(xs++[gY]).flatMap OX.cells) 2 rG (wn rfl) rfl rfl rfl rfl rfl rfl (St.lV (xs:=[iV ((gY.fl:Nat):Int),.bool (gY.U 0),.bool (gY.U 1),.bool (gY.U 2),.bool (gY.U 3),.bool (gY.U 4),iV gY.d.p0.node,iV gY.d.p0.epoch,iV gY.d.p1.node,iV gY.d.p1.epoch,iV gY.d.p2.node,iV gY.d.p2.epoch,iV gY.d.p3.node,iV gY.d.p3.epoch,.slice gY.BA 5 gY.bc,.slice gY.sA gY.sn gY.sc,.slice gY.tA gY.tn gY.tc,iV ((gY.calls:Nat):Int)]) 0 rG rfl rfl rfl) Tryz.underlying23 am9 rfl (by decide) (bX rfl) (by simp only [maxLen];omega) (by omega) (jM (enc:=OX.cells) rfl rfl) ?_;intro A22 c23 Md aI6 aI7 jv;refine zN 6 ?_;refine vv (v:=iV ((k+1:Nat):Int)) gN ?_;refine zN 2 ?_;have rF:=jv.aR [1,0];refine aS (k+1,A22,c23,xs++[gY],L12++LL) ?_ ⟨rfl,rfl,rfl,rfl,rfl,trivial⟩ (by first | omega | (dsimp only;omega));exact ⟨(by dsimp only;omega),(by rw [List.length_append,hi5];rfl),(afD hi5 Fu aCf),rF⟩
 refine zN 18 ?_;obtain rfl:k=l.length+1:=by omega
 exact ⟨xs,LL,Ab,cb,rfl,hi5,Fu,S3⟩
theorem adD {P:Program} {t:TypeId} {xo yo:Operand} {w:World} {a b:Int} (ha:0<=a) (hb:0<b):(do eqGuard .rem t xo yo (iV a) (iV b);binOp .rem t (iV a) (iV b):Sem Value).run P w= .ok (iV (a % b)) w:=by
 obtain ⟨k,rfl⟩:=Int.eq_ofNat_of_zero_le ha;obtain ⟨m,rfl⟩:=Int.eq_ofNat_of_zero_le (Int.le_of_lt hb);exact UJ (c:=k % m) rfl (by omega)
theorem avm {P:Program} {w:World} {x:Int} (h: -9223372036854775807<=x/\x<=9223372036854775807):(Op.unary .neg (iV x)).run P w= .ok (iV (-x)) w:=by
 simp [Op.unary,Op.intArith,Int.zero_sub,wrap64_in (z:= -x) (by omega) (by omega)]
def aX (n m:Int):Int:=(if n<0 then-(n+1) else n) % m
theorem pF {n m:Int} (hm:0<m):0<=aX n m/\aX n m<m:=⟨Int.emod_nonneg _ (by omega),Int.emod_lt_of_pos _ hm⟩
def mO (k a b c:Int):Ev:=
 if aX k 8<3 then ⟨1,aX a 2,aX b 24,aX c 1000,0,0⟩ else if aX k 8<5 then ⟨2,0,0,0,0,0⟩
 else if aX k 8<7 then ⟨3,0,0,0,aX a 3,aX b 6⟩ else ⟨4,0,0,0,0,0⟩
structure Gr where
 kd:Int
 a:Int
 b:Int
 c:Int
 d:Int
def Gr.cells (g:Gr):List Value:=[iV g.kd,iV g.a,iV g.b,iV g.c,iV g.d]
def KO (x:Int):Prop:= -9223372036854775808<=x/\x<=9223372036854775807
def Gr.ok (g:Gr):Prop:=KO g.kd/\KO g.a/\KO g.b/\KO g.c/\KO g.d
def VP (g:Gr) (e:Ev):Ac:=⟨2,aX g.a 3,aX g.b 2,0,0,if e.kind=4 then 2 else e.kind,e.producer,e.id,e.body,e.aO,e.hno⟩
def gG (g:Gr) (cr:Bool):Ac:=
 if aX g.kd 24<7 then VP g (mO g.c g.a g.d g.d)
 else if aX g.kd 24<13 then ⟨3,aX g.a 3,0,0,0,0,0,0,0,0,0⟩
 else if aX g.kd 24=13 then ⟨4,0,0,aX g.c 20,0,0,0,0,0,0,0⟩
 else if aX g.kd 24=14 then ⟨5,0,0,aX g.c 20,0,0,0,0,0,0,0⟩
 else if aX g.kd 24=15 then ⟨6,0,0,aX g.c 20,0,0,0,0,0,0,0⟩
 else if aX g.kd 24=16 then ⟨10,aX g.a 3,aX g.b 2,0,0,0,0,0,0,0,0⟩
 else if aX g.kd 24=17/\cr=true then ⟨8,aX g.a 3,0,0,aX g.c 120,0,0,0,0,0,0⟩
 else if aX g.kd 24=18/\cr=true then ⟨9,aX g.a 3,0,0,0,0,0,0,0,0,0⟩
 else ⟨7,0,0,0,0,0,0,0,0,0,0⟩
theorem fH {n m:Int} (hn: -9223372036854775808<=n/\n<=9223372036854775807) (hm:0<m) (w:World):
    Calls Tryz.prog 21 #[iV n,iV m] w (λe w'=>e= .returned (iV (aX n m))/\w'=w):=by
 have S:=St.start w;refine gB 13 Tryz.func21 ?_;refine cw [0,1] ?_;refine zN 9 ?_;by_cases h1:n<0
 ·refine zN 6 ?_;refine vv (v:=iV (n+1)) gN ?_;refine vv (v:=iV (-(n+1))) (acr rfl rfl (avm (by omega))) ?_;refine zN 7 ?_;refine vv (v:=iV ((-(n+1)) % m)) (aK rfl rfl rfl (adD (by omega) hm)) ?_;refine zN 5 ?_;rw [show aX n m=((-(n+1)) % m) from by unfold aX;first | rw [if_pos (by omega)] | rw [if_neg (by omega)]];exact ⟨rfl,rfl⟩
 refine zN 10 ?_;refine vv (v:=iV (n % m)) (aK rfl rfl rfl (adD (by omega) hm)) ?_;refine zN 5 ?_;rw [show aX n m=(n % m) from by unfold aX;first | rw [if_pos (by omega)] | rw [if_neg (by omega)]];exact ⟨rfl,rfl⟩
theorem lD {n m:Int} (hn: -9223372036854775808<=n/\n<=9223372036854775807) (hm:0<m) (w:World):
    Calls Tryz.prog 15 #[iV n,iV m] w (λe w'=>e= .returned (iV (aX n m))/\w'=w):=by
 have S:=St.start w;refine gB 8 Tryz.func15 ?_;refine cw [0,1] ?_;refine zN 9 ?_;refine dI zx (fH hn hm _) ?_;rintro _ w1 ⟨rfl,rfl⟩;refine ⟨_,rfl,?_⟩;refine zN 5 ?_;exact ⟨rfl,rfl⟩
theorem T9 {k a b c:Int} (h1:KO k) (h2:KO a) (h3:KO b) (h4:KO c) (w:World):
    Calls Tryz.prog 22 #[.agg #[iV k,iV a,iV b,iV c]] w (λe w'=>e= .returned (.agg (Ev.cells (mO k a b c)).toArray)/\Below w.heap.size w w'):=by
 have S:=St.start w;refine gB 36 Tryz.func22 ?_;refine cw [0] ?_;refine zN 2 ?_;refine iK S ?_;intro b1 w2 S3;refine fF S3 Zb ?_;intro b4 w5 S6;refine zQ ?_;refine Um (vv (vN 0 XR) ?_);refine zQ ?_;refine dI zx (fH (m:=8) h1 (by decide) _) ?_;rintro _ w7 ⟨rfl,rfl⟩;refine ⟨_,rfl,?_⟩;refine zN 5 ?_;have hp:=pF (n:=k) (m:=8) (by decide);refine zQ ?_;by_cases h8:(aX k 8)=0
 ·refine zN 9 ?_;have S9:=S6.drew;refine fC 11 10 S9 [] ?_;refine gk (v:= .pointer (some ⟨b1,1,none⟩)) 0 rfl S9 (λ_ _=>vN _ Ag) ?_;refine gM ?_;refine gk (v:= .pointer (some ⟨b1,2,none⟩)) 3 rfl S9 (λ_ _=>vN _ Ah) ?_;refine gM ?_;refine gk (v:= .pointer (some ⟨b1,3,none⟩)) 6 rfl S9 (λ_ _=>vN _ Ig) ?_;refine gM ?_;refine eP (m:=4) (r:=2) (by kernel_rfl) ?_;refine kN (i:=2) rfl rfl (wn rfl) rfl rfl (iB (vs:=[iV a,iV 2]) rfl zx ⟨rfl,rfl,trivial⟩) (fH (m:=2) h2 (by decide) _) ?_;rintro _ w16 ⟨rfl,rfl⟩;refine ⟨_,rfl,?_⟩;refine gM ?_;refine eP (m:=3) (r:=5) (by kernel_rfl) ?_;refine kN (i:=5) rfl rfl (wn rfl) rfl rfl (iB (vs:=[iV b,iV 24]) rfl zx ⟨rfl,rfl,trivial⟩) (fH (m:=24) h3 (by decide) _) ?_;rintro _ Ku ⟨rfl,rfl⟩;refine ⟨_,rfl,?_⟩;refine gM ?_;refine eP (m:=2) (r:=8) (by kernel_rfl) ?_;refine kN (i:=8) rfl rfl (wn rfl) rfl rfl (iB (vs:=[iV c,iV 1000]) rfl zx ⟨rfl,rfl,trivial⟩) (fH (m:=1000) h4 (by decide) _) ?_;rintro _ Ng ⟨rfl,rfl⟩;refine ⟨_,rfl,?_⟩;refine gM ?_;refine gk (v:= .agg #[iV 1,iV (aX a 2),iV (aX b 24),iV (aX c 1000),iV 0,iV 0]) 9 rfl S9 (λ_ _=>gD) ?_;refine eD (by kernel_rfl) rfl rfl rfl ?_;refine sa 0 S9 iE ?_;intro Ux rG;refine zQ ?_;refine iU ?_;refine zN 5 ?_;rw [show mO k a b c=⟨1,(aX a 2),(aX b 24),(aX c 1000),0,0⟩ from by unfold mO;first | rw [if_pos (by omega)] | rw [if_neg (by omega),if_pos (by omega)] | rw [if_neg (by omega),if_neg (by omega),if_pos (by omega)] | rw [if_neg (by omega),if_neg (by omega),if_neg (by omega)]];exact ⟨rfl,rG.low⟩
 refine zN 7 ?_;by_cases h22:(aX k 8)=1
 ·refine zN 9 ?_;have nU:=S6.drew;refine fC 11 10 nU [] ?_;refine gk (v:= .pointer (some ⟨b1,1,none⟩)) 0 rfl nU (λ_ _=>vN _ Ag) ?_;refine gM ?_;refine gk (v:= .pointer (some ⟨b1,2,none⟩)) 3 rfl nU (λ_ _=>vN _ Ah) ?_;refine gM ?_;refine gk (v:= .pointer (some ⟨b1,3,none⟩)) 6 rfl nU (λ_ _=>vN _ Ig) ?_;refine gM ?_;refine eP (m:=4) (r:=2) (by kernel_rfl) ?_;refine kN (i:=2) rfl rfl (wn rfl) rfl rfl (iB (vs:=[iV a,iV 2]) rfl zx ⟨rfl,rfl,trivial⟩) (fH (m:=2) h2 (by decide) _) ?_;rintro _ Ru ⟨rfl,rfl⟩;refine ⟨_,rfl,?_⟩;refine gM ?_;refine eP (m:=3) (r:=5) (by kernel_rfl) ?_;refine kN (i:=5) rfl rfl (wn rfl) rfl rfl (iB (vs:=[iV b,iV 24]) rfl zx ⟨rfl,rfl,trivial⟩) (fH (m:=24) h3 (by decide) _) ?_;rintro _ Zv ⟨rfl,rfl⟩;refine ⟨_,rfl,?_⟩;refine gM ?_;refine eP (m:=2) (r:=8) (by kernel_rfl) ?_;refine kN (i:=8) rfl rfl (wn rfl) rfl rfl (iB (vs:=[iV c,iV 1000]) rfl zx ⟨rfl,rfl,trivial⟩) (fH (m:=1000) h4 (by decide) _) ?_;rintro _ w32 ⟨rfl,rfl⟩;refine ⟨_,rfl,?_⟩;refine gM ?_;refine gk (v:= .agg #[iV 1,iV (aX a 2),iV (aX b 24),iV (aX c 1000),iV 0,iV 0]) 9 rfl nU (λ_ _=>gD) ?_;refine eD (by kernel_rfl) rfl rfl rfl ?_;refine sa 0 nU iE ?_;intro Yq sG;refine zQ ?_;refine iU ?_;refine zN 5 ?_;rw [show mO k a b c=⟨1,(aX a 2),(aX b 24),(aX c 1000),0,0⟩ from by unfold mO;first | rw [if_pos (by omega)] | rw [if_neg (by omega),if_pos (by omega)] | rw [if_neg (by omega),if_neg (by omega),if_pos (by omega)] | rw [if_neg (by omega),if_neg (by omega),if_neg (by omega)]];exact ⟨rfl,sG.low⟩
 refine zN 6 ?_;by_cases yX:(aX k 8)=2
 ·refine zN 6 ?_;have lY:=S6.drew;refine fC 11 10 lY [] ?_;refine gk (v:= .pointer (some ⟨b1,1,none⟩)) 0 rfl lY (λ_ _=>vN _ Ag) ?_;refine gM ?_;refine gk (v:= .pointer (some ⟨b1,2,none⟩)) 3 rfl lY (λ_ _=>vN _ Ah) ?_;refine gM ?_;refine gk (v:= .pointer (some ⟨b1,3,none⟩)) 6 rfl lY (λ_ _=>vN _ Ig) ?_;refine gM ?_;refine eP (m:=4) (r:=2) (by kernel_rfl) ?_;refine kN (i:=2) rfl rfl (wn rfl) rfl rfl (iB (vs:=[iV a,iV 2]) rfl zx ⟨rfl,rfl,trivial⟩) (fH (m:=2) h2 (by decide) _) ?_;rintro _ Rt ⟨rfl,rfl⟩;refine ⟨_,rfl,?_⟩;refine gM ?_;refine eP (m:=3) (r:=5) (by kernel_rfl) ?_;refine kN (i:=5) rfl rfl (wn rfl) rfl rfl (iB (vs:=[iV b,iV 24]) rfl zx ⟨rfl,rfl,trivial⟩) (fH (m:=24) h3 (by decide) _) ?_;rintro _ Z5 ⟨rfl,rfl⟩;refine ⟨_,rfl,?_⟩;refine gM ?_;refine eP (m:=2) (r:=8) (by kernel_rfl) ?_;refine kN (i:=8) rfl rfl (wn rfl) rfl rfl (iB (vs:=[iV c,iV 1000]) rfl zx ⟨rfl,rfl,trivial⟩) (fH (m:=1000) h4 (by decide) _) ?_;rintro _ Yi ⟨rfl,rfl⟩;refine ⟨_,rfl,?_⟩;refine gM ?_;refine gk (v:= .agg #[iV 1,iV (aX a 2),iV (aX b 24),iV (aX c 1000),iV 0,iV 0]) 9 rfl lY (λ_ _=>gD) ?_;refine eD (by kernel_rfl) rfl rfl rfl ?_;refine sa 0 lY iE ?_;intro ZO vD;refine zQ ?_;refine iU ?_;refine zN 5 ?_;rw [show mO k a b c=⟨1,(aX a 2),(aX b 24),(aX c 1000),0,0⟩ from by unfold mO;first | rw [if_pos (by omega)] | rw [if_neg (by omega),if_pos (by omega)] | rw [if_neg (by omega),if_neg (by omega),if_pos (by omega)] | rw [if_neg (by omega),if_neg (by omega),if_neg (by omega)]];exact ⟨rfl,vD.low⟩
 refine zN 8 ?_;by_cases h50:(aX k 8)=3
 ·refine zN 10 ?_;refine vv (v:= .agg #[iV 2,iV 0,iV 0,iV 0,iV 0,iV 0]) gD ?_;refine sa 0 S6 iE ?_;intro Zm oZ;refine zN 6 ?_;rw [show mO k a b c=⟨2,0,0,0,0,0⟩ from by unfold mO;first | rw [if_pos (by omega)] | rw [if_neg (by omega),if_pos (by omega)] | rw [if_neg (by omega),if_neg (by omega),if_pos (by omega)] | rw [if_neg (by omega),if_neg (by omega),if_neg (by omega)]];exact ⟨rfl,oZ.low⟩
 refine zN 6 ?_;by_cases h53:(aX k 8)=4
 ·refine zN 7 ?_;refine vv (v:= .agg #[iV 2,iV 0,iV 0,iV 0,iV 0,iV 0]) gD ?_;refine sa 0 S6 iE ?_;intro ZG uK;refine zN 6 ?_;rw [show mO k a b c=⟨2,0,0,0,0,0⟩ from by unfold mO;first | rw [if_pos (by omega)] | rw [if_neg (by omega),if_pos (by omega)] | rw [if_neg (by omega),if_neg (by omega),if_pos (by omega)] | rw [if_neg (by omega),if_neg (by omega),if_neg (by omega)]];exact ⟨rfl,uK.low⟩
 refine zN 8 ?_;by_cases h56:(aX k 8)=5
 ·refine zN 9 ?_;have qH:=S6.drew;refine fC 9 8 qH [] ?_;refine gk (v:= .pointer (some ⟨b1,1,none⟩)) 0 rfl qH (λ_ _=>vN _ Ag) ?_;refine gM ?_;refine gk (v:= .pointer (some ⟨b1,2,none⟩)) 3 rfl qH (λ_ _=>vN _ Ah) ?_;refine gM ?_;refine eP (m:=4) (r:=2) (by kernel_rfl) ?_;refine kN (i:=2) rfl rfl (wn rfl) rfl rfl (iB (vs:=[iV a,iV 3]) rfl zx ⟨rfl,rfl,trivial⟩) (fH (m:=3) h2 (by decide) _) ?_;rintro _ Ye ⟨rfl,rfl⟩;refine ⟨_,rfl,?_⟩;refine gM ?_;refine eP (m:=3) (r:=5) (by kernel_rfl) ?_;refine kN (i:=5) rfl rfl (wn rfl) rfl rfl (iB (vs:=[iV b,iV 6]) rfl zx ⟨rfl,rfl,trivial⟩) (fH (m:=6) h3 (by decide) _) ?_;rintro _ w63 ⟨rfl,rfl⟩;refine ⟨_,rfl,?_⟩;refine gM ?_;refine gk (v:= .agg #[iV (aX a 3),iV (aX b 6)]) 6 rfl qH (λ_ _=>gD) ?_;refine gk (v:= .agg #[iV 3,iV 0,iV 0,iV 0,iV (aX a 3),iV (aX b 6)]) 7 rfl qH (λ_ _=>gD) ?_;refine eD (by kernel_rfl) rfl rfl rfl ?_;refine sa 0 qH iE ?_;intro Ut uf;refine zQ ?_;refine iU ?_;refine zN 5 ?_;rw [show mO k a b c=⟨3,0,0,0,(aX a 3),(aX b 6)⟩ from by unfold mO;first | rw [if_pos (by omega)] | rw [if_neg (by omega),if_pos (by omega)] | rw [if_neg (by omega),if_neg (by omega),if_pos (by omega)] | rw [if_neg (by omega),if_neg (by omega),if_neg (by omega)]];exact ⟨rfl,uf.low⟩
 refine zN 6 ?_;by_cases h68:(aX k 8)=6
 ·refine zN 6 ?_;have vC:=S6.drew;refine fC 9 8 vC [] ?_;refine gk (v:= .pointer (some ⟨b1,1,none⟩)) 0 rfl vC (λ_ _=>vN _ Ag) ?_;refine gM ?_;refine gk (v:= .pointer (some ⟨b1,2,none⟩)) 3 rfl vC (λ_ _=>vN _ Ah) ?_;refine gM ?_;refine eP (m:=4) (r:=2) (by kernel_rfl) ?_;refine kN (i:=2) rfl rfl (wn rfl) rfl rfl (iB (vs:=[iV a,iV 3]) rfl zx ⟨rfl,rfl,trivial⟩) (fH (m:=3) h2 (by decide) _) ?_;rintro _ w74 ⟨rfl,rfl⟩;refine ⟨_,rfl,?_⟩;refine gM ?_;refine eP (m:=3) (r:=5) (by kernel_rfl) ?_;refine kN (i:=5) rfl rfl (wn rfl) rfl rfl (iB (vs:=[iV b,iV 6]) rfl zx ⟨rfl,rfl,trivial⟩) (fH (m:=6) h3 (by decide) _) ?_;rintro _ w75 ⟨rfl,rfl⟩;refine ⟨_,rfl,?_⟩;refine gM ?_;refine gk (v:= .agg #[iV (aX a 3),iV (aX b 6)]) 6 rfl vC (λ_ _=>gD) ?_;refine gk (v:= .agg #[iV 3,iV 0,iV 0,iV 0,iV (aX a 3),iV (aX b 6)]) 7 rfl vC (λ_ _=>gD) ?_;refine eD (by kernel_rfl) rfl rfl rfl ?_;refine sa 0 vC iE ?_;intro w78 AQ;refine zQ ?_;refine iU ?_;refine zN 5 ?_;rw [show mO k a b c=⟨3,0,0,0,(aX a 3),(aX b 6)⟩ from by unfold mO;first | rw [if_pos (by omega)] | rw [if_neg (by omega),if_pos (by omega)] | rw [if_neg (by omega),if_neg (by omega),if_pos (by omega)] | rw [if_neg (by omega),if_neg (by omega),if_neg (by omega)]];exact ⟨rfl,AQ.low⟩
 refine zN 10 ?_;refine vv (v:= .agg #[iV 4,iV 0,iV 0,iV 0,iV 0,iV 0]) gD ?_;refine sa 0 S6 iE ?_;intro w80 sF;refine zN 4 ?_;rw [show mO k a b c=⟨4,0,0,0,0,0⟩ from by unfold mO;first | rw [if_pos (by omega)] | rw [if_neg (by omega),if_pos (by omega)] | rw [if_neg (by omega),if_neg (by omega),if_pos (by omega)] | rw [if_neg (by omega),if_neg (by omega),if_neg (by omega)]];exact ⟨rfl,sF.low⟩
theorem Ua {k a b c:Int} (h1:KO k) (h2:KO a) (h3:KO b) (h4:KO c) (w:World):
    Calls Tryz.prog 16 #[.agg #[iV k,iV a,iV b,iV c]] w (λe w'=>e= .returned (.agg (Ev.cells (mO k a b c)).toArray)/\Below w.heap.size w w'):=by
 have S:=St.start w;refine gB 5 Tryz.func16 ?_;refine cw [0] ?_;refine zN 2 ?_;refine iK S ?_;intro b1 w2 S3;refine fF S3 Zb ?_;intro b4 w5 S6;refine zQ ?_;refine Vd (vv (aj rfl rfl (oq 1 S6 rfl Tryz.underlying67 rfl acF rfl)) ?_);refine cab axp S6 (T9 h1 h2 h3 h4 _) ?_;intro w7 S8;refine sa 0 S8 iE ?_;intro Yo qj;refine zN 4 ?_;exact ⟨rfl,qj.low⟩
theorem aby {g:Gr} (h:g.ok) (cr:Bool) (w:World):
    Calls Tryz.prog 13 #[.agg #[iV g.kd,iV g.a,iV g.b,iV g.c,iV g.d],.bool cr] w (λe w'=>e= .returned (.agg (Ac.cells (gG g cr)).toArray)/\Below w.heap.size w w'):=by
 have S:=St.start w;refine gB 91 Tryz.func13 ?_;refine cw [0,1] ?_;refine zN 2 ?_;refine iK S ?_;intro b1 w2 S3;refine fF S3 afU ?_;intro b4 w5 S6;refine zQ ?_;refine Vd (vv (vN 1 OH) ?_);refine zQ ?_;refine dI Qz (lD (m:=3) h.2.1 (by decide) _) ?_;rintro _ w7 ⟨rfl,rfl⟩;refine ⟨_,rfl,?_⟩;refine zN 2 ?_;refine Vd (vv (vN 2 XP) ?_);refine zQ ?_;refine dI Qz (lD (m:=2) h.2.2.1 (by decide) _) ?_;rintro _ w8 ⟨rfl,rfl⟩;refine ⟨_,rfl,?_⟩;refine zN 2 ?_;refine Um (vv (vN 0 XO) ?_);refine zQ ?_;refine dI Qz (lD (m:=24) h.1 (by decide) _) ?_;rintro _ w9 ⟨rfl,rfl⟩;refine ⟨_,rfl,?_⟩;refine zN 7 ?_;by_cases h10:(aX g.kd 24)<7
 ·refine zN 3 ?_;refine BK (vv (vN 3 Af) ?_);refine zQ ?_;refine vv (vN 1 OH) ?_;refine zQ ?_;refine vv (vN 4 OI) ?_;refine zQ ?_;refine vv (vN 4 OI) ?_;refine zQ ?_;refine vv (v:= .agg #[iV g.c,iV g.a,iV g.d,iV g.d]) gD ?_;refine cab axb S6 (Ua h.2.2.2.1 h.2.1 h.2.2.2.2 h.2.2.2.2 _) ?_;intro Jd mF;refine fF mF Zb ?_;intro b14 G8 kQ;refine sa 0 kQ iE ?_;intro Ku jc;refine zN 7 ?_;by_cases h19:(mO g.c g.a g.d g.d).kind=4
  ·refine zN 6 ?_;refine GQ 0 jc mZ ?_;intro Ux rG;refine zN 7 ?_;refine vv (v:= .agg #[iV 2,iV (aX g.a 3),iV (aX g.b 2),iV 0,iV 0,iV 2,iV ((mO g.c g.a g.d g.d).producer),iV ((mO g.c g.a g.d g.d).id),iV ((mO g.c g.a g.d g.d).body),iV ((mO g.c g.a g.d g.d).aO),iV ((mO g.c g.a g.d g.d).hno)]) gD ?_;refine sa 1 rG jY ?_;intro w22 nU;refine zN 6 ?_;rw [show gG g cr=⟨2,(aX g.a 3),(aX g.b 2),0,0,2,(mO g.c g.a g.d g.d).producer,(mO g.c g.a g.d g.d).id,(mO g.c g.a g.d g.d).body,(mO g.c g.a g.d g.d).aO,(mO g.c g.a g.d g.d).hno⟩ from by unfold gG;rw [if_pos (by omega),VP,if_pos (by assumption)]];exact ⟨rfl,nU.low⟩
  refine zN 11 ?_;refine vv (v:= .agg #[iV 2,iV (aX g.a 3),iV (aX g.b 2),iV 0,iV 0,iV ((mO g.c g.a g.d g.d).kind),iV ((mO g.c g.a g.d g.d).producer),iV ((mO g.c g.a g.d g.d).id),iV ((mO g.c g.a g.d g.d).body),iV ((mO g.c g.a g.d g.d).aO),iV ((mO g.c g.a g.d g.d).hno)]) gD ?_;refine sa 1 jc jY ?_;intro Md jv;refine zN 6 ?_;rw [show gG g cr=⟨2,(aX g.a 3),(aX g.b 2),0,0,(mO g.c g.a g.d g.d).kind,(mO g.c g.a g.d g.d).producer,(mO g.c g.a g.d g.d).id,(mO g.c g.a g.d g.d).body,(mO g.c g.a g.d g.d).aO,(mO g.c g.a g.d g.d).hno⟩ from by unfold gG;rw [if_pos (by omega),VP,if_neg (by assumption)]];exact ⟨rfl,jv.low⟩
 refine zN 8 ?_;by_cases h26:(aX g.kd 24)<13
 ·refine zN 8 ?_;refine vv (v:= .agg #[iV 3,iV (aX g.a 3),iV 0,iV 0,iV 0,iV 0,iV 0,iV 0,iV 0,iV 0,iV 0]) gD ?_;refine sa 0 S6 jY ?_;intro Ni rF;refine zN 6 ?_;rw [show gG g cr=⟨3,(aX g.a 3),0,0,0,0,0,0,0,0,0⟩ from by unfold gG;rw [if_neg (by omega),if_pos (by omega)]];exact ⟨rfl,rF.low⟩
 refine zN 8 ?_;by_cases h29:(aX g.kd 24)=13
 ·refine zN 3 ?_;refine BK (vv (vN 3 Af) ?_);refine zQ ?_;refine dI Qz (lD (m:=20) h.2.2.2.1 (by decide) _) ?_;rintro _ Ru ⟨rfl,rfl⟩;refine ⟨_,rfl,?_⟩;refine vv (v:= .agg #[iV 4,iV 0,iV 0,iV (aX g.c 20),iV 0,iV 0,iV 0,iV 0,iV 0,iV 0,iV 0]) gD ?_;refine sa 0 S6 jY ?_;intro Zv o8;refine zN 6 ?_;rw [show gG g cr=⟨4,0,0,(aX g.c 20),0,0,0,0,0,0,0⟩ from by unfold gG;rw [if_neg (by omega),if_neg (by omega),if_pos (by omega)]];exact ⟨rfl,o8.low⟩
 refine zN 8 ?_;by_cases h33:(aX g.kd 24)=14
 ·refine zN 3 ?_;refine BK (vv (vN 3 Af) ?_);refine zQ ?_;refine dI Qz (lD (m:=20) h.2.2.2.1 (by decide) _) ?_;rintro _ Yq ⟨rfl,rfl⟩;refine ⟨_,rfl,?_⟩;refine vv (v:= .agg #[iV 5,iV 0,iV 0,iV (aX g.c 20),iV 0,iV 0,iV 0,iV 0,iV 0,iV 0,iV 0]) gD ?_;refine sa 0 S6 jY ?_;intro Yc nT;refine zN 6 ?_;rw [show gG g cr=⟨5,0,0,(aX g.c 20),0,0,0,0,0,0,0⟩ from by unfold gG;rw [if_neg (by omega),if_neg (by omega),if_neg (by omega),if_pos (by omega)]];exact ⟨rfl,nT.low⟩
 refine zN 8 ?_;by_cases h37:(aX g.kd 24)=15
 ·refine zN 3 ?_;refine BK (vv (vN 3 Af) ?_);refine zQ ?_;refine dI Qz (lD (m:=20) h.2.2.2.1 (by decide) _) ?_;rintro _ w38 ⟨rfl,rfl⟩;refine ⟨_,rfl,?_⟩;refine vv (v:= .agg #[iV 6,iV 0,iV 0,iV (aX g.c 20),iV 0,iV 0,iV 0,iV 0,iV 0,iV 0,iV 0]) gD ?_;refine sa 0 S6 jY ?_;intro ZF uj;refine zN 6 ?_;rw [show gG g cr=⟨6,0,0,(aX g.c 20),0,0,0,0,0,0,0⟩ from by unfold gG;rw [if_neg (by omega),if_neg (by omega),if_neg (by omega),if_neg (by omega),if_pos (by omega)]];exact ⟨rfl,uj.low⟩
 refine zN 8 ?_;by_cases h41:(aX g.kd 24)=16
 ·refine zN 9 ?_;refine vv (v:= .agg #[iV 10,iV (aX g.a 3),iV (aX g.b 2),iV 0,iV 0,iV 0,iV 0,iV 0,iV 0,iV 0,iV 0]) gD ?_;refine sa 0 S6 jY ?_;intro Uq p9;refine zN 6 ?_;rw [show gG g cr=⟨10,(aX g.a 3),(aX g.b 2),0,0,0,0,0,0,0,0⟩ from by unfold gG;rw [if_neg (by omega),if_neg (by omega),if_neg (by omega),if_neg (by omega),if_neg (by omega),if_pos (by omega)]];exact ⟨rfl,p9.low⟩
 refine zN 6 ?_;have hp:=pF (n:=g.kd) (m:=24) (by decide)
 cases cr with
 | false=>
  refine zN 2 ?_;by_cases h44:(aX g.kd 24)=17
  ·refine zN 24 ?_;refine vv (v:= .agg #[iV 7,iV 0,iV 0,iV 0,iV 0,iV 0,iV 0,iV 0,iV 0,iV 0,iV 0]) gD ?_;refine sa 0 S6 jY ?_;intro Z5 nG;refine zN 4 ?_;rw [show gG g false=⟨7,0,0,0,0,0,0,0,0,0,0⟩ from by unfold gG;rw [if_neg (by omega),if_neg (by omega),if_neg (by omega),if_neg (by omega),if_neg (by omega),if_neg (by omega),if_neg (λh=>by have:=h.2;cases this),if_neg (λh=>by have:=h.2;cases this)]];exact ⟨rfl,nG.low⟩
  refine zN 11 ?_;by_cases h47:(aX g.kd 24)=18
  ·refine zN 13 ?_;refine vv (v:= .agg #[iV 7,iV 0,iV 0,iV 0,iV 0,iV 0,iV 0,iV 0,iV 0,iV 0,iV 0]) gD ?_;refine sa 0 S6 jY ?_;intro ZO vD;refine zN 4 ?_;rw [show gG g false=⟨7,0,0,0,0,0,0,0,0,0,0⟩ from by unfold gG;rw [if_neg (by omega),if_neg (by omega),if_neg (by omega),if_neg (by omega),if_neg (by omega),if_neg (by omega),if_neg (λh=>by have:=h.2;cases this),if_neg (λh=>by have:=h.2;cases this)]];exact ⟨rfl,vD.low⟩
  refine zN 13 ?_;refine vv (v:= .agg #[iV 7,iV 0,iV 0,iV 0,iV 0,iV 0,iV 0,iV 0,iV 0,iV 0,iV 0]) gD ?_;refine sa 0 S6 jY ?_;intro Uu tZ;refine zN 4 ?_;rw [show gG g false=⟨7,0,0,0,0,0,0,0,0,0,0⟩ from by unfold gG;rw [if_neg (by omega),if_neg (by omega),if_neg (by omega),if_neg (by omega),if_neg (by omega),if_neg (by omega),if_neg (λh=>by have:=h.2;cases this),if_neg (λh=>by have:=h.2;cases this)]];exact ⟨rfl,tZ.low⟩
 | true=>
  refine zN 2 ?_;by_cases h52:(aX g.kd 24)=17
  ·refine zN 11 ?_;refine vv (vN 3 Af) ?_;refine zQ ?_;refine dI Qz (lD (m:=120) h.2.2.2.1 (by decide) _) ?_;rintro _ w53 ⟨rfl,rfl⟩;refine ⟨_,rfl,?_⟩;refine vv (v:= .agg #[iV 8,iV (aX g.a 3),iV 0,iV 0,iV (aX g.c 120),iV 0,iV 0,iV 0,iV 0,iV 0,iV 0]) gD ?_;refine sa 0 S6 jY ?_;intro ZG uK;refine zN 6 ?_;rw [show gG g true=⟨8,(aX g.a 3),0,0,(aX g.c 120),0,0,0,0,0,0⟩ from by unfold gG;rw [if_neg (by omega),if_neg (by omega),if_neg (by omega),if_neg (by omega),if_neg (by omega),if_neg (by omega),if_pos ⟨by omega,rfl⟩]];exact ⟨rfl,uK.low⟩
  refine zN 11 ?_;by_cases h56:(aX g.kd 24)=18
  ·refine zN 11 ?_;refine vv (v:= .agg #[iV 9,iV (aX g.a 3),iV 0,iV 0,iV 0,iV 0,iV 0,iV 0,iV 0,iV 0,iV 0]) gD ?_;refine sa 0 S6 jY ?_;intro w57 CG;refine zN 6 ?_;rw [show gG g true=⟨9,(aX g.a 3),0,0,0,0,0,0,0,0,0⟩ from by unfold gG;rw [if_neg (by omega),if_neg (by omega),if_neg (by omega),if_neg (by omega),if_neg (by omega),if_neg (by omega),if_neg (λh=>by have:=h.1;omega),if_pos ⟨by omega,rfl⟩]];exact ⟨rfl,CG.low⟩
  refine zN 13 ?_;refine vv (v:= .agg #[iV 7,iV 0,iV 0,iV 0,iV 0,iV 0,iV 0,iV 0,iV 0,iV 0,iV 0]) gD ?_;refine sa 0 S6 jY ?_;intro w59 Uv;refine zN 4 ?_;rw [show gG g true=⟨7,0,0,0,0,0,0,0,0,0,0⟩ from by unfold gG;rw [if_neg (by omega),if_neg (by omega),if_neg (by omega),if_neg (by omega),if_neg (by omega),if_neg (by omega),if_neg (λh=>by have:=h.1;omega),if_neg (λh=>by have:=h.1;omega)]];exact ⟨rfl,Uv.low⟩
def mks:List Ac:=[⟨1,0,0,0,0,0,0,0,0,0,0⟩,⟨1,1,1,0,0,0,0,0,0,0,0⟩]
def bF (gs:List Gr) (m:Nat) (cr:Bool):List Ac:=mks++(gs.take m).map (gG · cr)
theorem Ub {gs:List Gr} {k:Nat} {g:Gr} {cr:Bool} (h:gs[k]? =some g):bF gs (k+1) cr=bF gs k cr++[gG g cr]:=by
 unfold bF;rw [List.take_add_one,h];simp
theorem KP {gs:List Gr} {k m:Nat} {cr:Bool} (h1:k<=gs.length) (h2:k<=m) (h3:k=gs.length\/k=m):bF gs k cr=bF gs m cr:=by
 rcases h3 with rfl | rfl
 ·unfold bF;rw [List.take_of_length_le (Nat.le_refl _),List.take_of_length_le h2]
 rfl
theorem KQ {gs:List Gr} {k:Nat} {cr:Bool} (h:k<=gs.length):(bF gs k cr).length=2+k:=by
 unfold bF mks;simp;omega
theorem FC {gs:List Gr} {A:Option Addr} {c m:Nat} {cr:Bool} (hm:m<=1000) (hg: ∀ g∈gs,g.ok) (w:World) (h:Rd w w.heap.size 5 A gs.length (gs.flatMap Gr.cells)):
    Calls Tryz.prog 8 #[.slice A gs.length c,iV ((m:Nat):Int),.bool cr] w (λe w'=> ∃ A' c',e= .returned (.slice A' ((bF gs m cr).length) c')/\St w.heap.size w w' [.own 57 11 (.slice A' ((bF gs m cr).length) c') ((bF gs m cr).length) ((bF gs m cr).flatMap Ac.cells)]):=by
 have S:=(St.start w).bV h;refine gB 35 Tryz.func8 ?_;refine cw [0,1,2] ?_;refine zN 7 ?_;refine vv (v:= .agg #[iV 1,iV 0,iV 0,iV 0,iV 0,iV 0,iV 0,iV 0,iV 0,iV 0,iV 0]) gD ?_;refine vv (v:= .agg #[iV 1,iV 1,iV 1,iV 0,iV 0,iV 0,iV 0,iV 0,iV 0,iV 0,iV 0]) gD ?_;refine qD (V:=λb=> .slice (some ⟨b,0,none⟩) 2 2) (row:=(mks.flatMap Ac.cells).toArray) (t:=57) (n:=2) (s:=11) (xs:=mks.flatMap Ac.cells) S (wn rfl) rfl rfl (aU (vs:=[(0,.agg #[iV 1,iV 0,iV 0,iV 0,iV 0,iV 0,iV 0,iV 0,iV 0,iV 0,iV 0]),(1,.agg #[iV 1,iV 1,iV 1,iV 0,iV 0,iV 0,iV 0,iV 0,iV 0,iV 0,iV 0])]) rfl ⟨rfl,rfl,rfl,rfl,trivial⟩ (by kernel_rfl)) rfl (by decide) rfl ?_;intro b1 w2 S3;refine zN 10 ?_;refine dW (X:=Nat×(Option Addr)×Nat) (λxv=>[(0,.slice A gs.length c),(1,iV ((m:Nat):Int)),(2,.bool cr),(6,.slice none 0 0),(7,.slice xv.2.1 (2+xv.1) xv.2.2),(8,iV ((xv.1:Nat):Int))]) (λxv wr=>(xv.1<=gs.length)/\(xv.1<=m)/\St w.heap.size w wr [.own 57 11 (.slice xv.2.1 (2+xv.1) xv.2.2) (2+xv.1) ((bF gs xv.1 cr).flatMap Ac.cells),.rd 5 A gs.length ((gs).flatMap Gr.cells)]) (λxv=>gs.length-xv.1) (0,(some ⟨b1,0,none⟩),2) ?_ ?_ ?_
 ·exact ⟨Nat.zero_le _,Nat.zero_le _,S3⟩
 ·exact ⟨rfl,rfl,rfl,rfl,rfl,rfl,trivial⟩
 rintro ⟨k,Ab,cb⟩ w4 ⟨Fu,vG,S5⟩
 try dsimp only at Fu vG S5
 refine bC (l':=[(0,.slice A gs.length c),(1,iV ((m:Nat):Int)),(2,.bool cr),(6,.slice none 0 0),(7,.slice Ab (2+k) cb),(8,iV ((k:Nat):Int))]) ⟨rfl,rfl,rfl,rfl,rfl,rfl,trivial⟩ (aQ (aQ (aC (vm ?_))));refine zQ ?_;refine vv (v:=iV ((gs.length:Nat):Int)) (qC (vs:=[.slice A gs.length c]) rfl ⟨rfl,trivial⟩ λ_=>ajI rfl Tryz.underlying22) ?_;by_cases h8:((k:Nat):Int)< ((gs.length:Nat):Int)
 ·refine zN 4 ?_;by_cases h9:((k:Nat):Int)< ((m:Nat):Int)
  ·refine zN 13 ?_;obtain ⟨b10,o11,rfl⟩:=Rd.addr (St.rd 1 S5 rfl) (by omega);obtain ⟨BO,amG⟩:=L6 k (St.rd 1 S5 rfl) (by omega);refine vv (v:= .pointer (some ⟨b10,o11+k*5,none⟩)) (aT rfl rfl rfl (Aw k Tryz.underlying22 Ul (by omega) (by omega))) ?_;refine vv (aj rfl rfl (aA (cs:=Gr.cells BO) Tryz.underlying60 rfl Ul rfl (Rd.vM (St.rd 1 S5 rfl) (λ_ _ h=>bg (enc:=Gr.cells) (sz:=5) (λ_=>rfl) amG h)))) ?_;refine zQ ?_;refine cab aw0 S5 (aby (hg _ (List.mem_of_getElem? amG)) cr _) ?_;intro Jk gI;refine fF gI afU ?_;intro b17 Ng lX;refine sa 0 lX jY ?_;intro Ux rG;refine zN 5 ?_;refine Zc rG ?_;intro RH Jg jw;refine dY (news:=[iV ((gG BO cr).kd),iV ((gG BO cr).nd),iV ((gG BO cr).qu),iV ((gG BO cr).at_),iV ((gG BO cr).kp),iV ((gG BO cr).ek),iV ((gG BO cr).ep),iV ((gG BO cr).ei),iV ((gG BO cr).eb),iV ((gG BO cr).eh),iV ((gG BO cr).en)]) (xs':=(bF gs (k+1) cr).flatMap Ac.cells) 2 jw (wn rfl) rfl rfl rfl rfl rfl rfl (St.lV (xs:=[iV ((gG BO cr).kd),iV ((gG BO cr).nd),iV ((gG BO cr).qu),iV ((gG BO cr).at_),iV ((gG BO cr).kp),iV ((gG BO cr).ek),iV ((gG BO cr).ep),iV ((gG BO cr).ei),iV ((gG BO cr).eb),iV ((gG BO cr).eh),iV ((gG BO cr).en)]) 0 jw rfl rfl rfl) Tryz.underlying26 anD rfl (by decide) (bX rfl) (by simp only [maxLen];omega) (by omega) (jM (enc:=Ac.cells) (Ub amG).symm rfl) ?_;intro A25 c26 Ni hc29 ay8 rF;refine zN 6 ?_;refine vv (v:=iV ((k+1:Nat):Int)) gN ?_;refine zN 2 ?_;have kU:=rF.aR [1,0];refine aS (k+1,A25,c26) ?_ ⟨rfl,rfl,rfl,rfl,rfl,rfl,trivial⟩ (by first | omega | (dsimp only;omega));exact ⟨(by dsimp only;omega),(by dsimp only;omega),kU⟩
  refine zN 18 ?_;have o8:=S5.aR [1];rw [show bF gs m cr=bF gs k cr from (KP (by omega) (by omega) (by omega)).symm,KQ (by omega)];exact ⟨Ab,cb,rfl,o8⟩
 refine zN 22 ?_;have qm:=S5.aR [1];rw [show bF gs m cr=bF gs k cr from (KP (by omega) (by omega) (by omega)).symm,KQ (by omega)];exact ⟨Ab,cb,rfl,qm⟩
open zf
theorem YG {α β:Type} {R:α->β->Prop} {r:β}: ∀ {l:List α} {m j:Nat} {u:α},dL R l (List.replicate m r)->l[j]? =some u->R u r
 | _::_,_+1,0,_,h,hj=>by cases hj;exact h.1
 | _::l,m+1,j+1,_,h,hj=>YG (l:=l) (m:=m) h.2 hj
 | [],_,_,_,_,hj=>by simp at hj
theorem wf_i64 {x:Int} (h:(Lit.int .i64 x).wf=true):KO x:=by
 have h1:IntKind.i64.min= -9223372036854775808:=by decide
 have h2:IntKind.i64.max=9223372036854775807:=by decide
 unfold KO;simp only [Lit.wf,h1,h2,Bool.and_eq_true,decide_eq_true_eq] at h;exact h
theorem ajx {α:Type} [zf α] {W:World} {v:Value} {b:Nat} (h:Fits W v (.sl b (List.replicate (size α) (.int .i64)))) {A:Option Addr} {n c:Nat} {l:List α} (hv:v= .slice A n c) (hr:Rd W W.heap.size (size α) A n (jQ l)): ∀ x∈l,∀ y∈ints x,KO y:=by
 intro x hx y hy;obtain ⟨k,hk⟩:=List.mem_iff_getElem?.1 hx;obtain ⟨j,hj⟩:=List.mem_iff_getElem?.1 hy;have hkn:k<n:=by rw [<-hr.Oq];exact (List.getElem?_eq_some_iff.1 hk).1
 obtain ⟨bb,off,a,rfl,_,ha,hc⟩:=hr.amP hkn;rw [hk] at ha
 cases ha;have h1:=hc j y hj;have hjs:j<size α:=by rw [<-len x];exact (List.getElem?_eq_some_iff.1 hj).1
 rcases h with h | ⟨ad,n',c',h,_,_,_,hcell⟩
 ·rw [hv] at h;cases h
 rw [hv] at h
 cases h;obtain ⟨cs,h2,_,h3⟩:=hcell k hkn;have hl:=h2.len;rw [List.length_replicate] at hl;have hu:cs[j]? =some (cs[j]'(by omega)):=List.getElem?_eq_getElem (by omega);have h4:=h3 j _ hu;rw [List.length_replicate,Go.WideShapes.add_plain,h1] at h4;obtain ⟨z,hz,hw⟩:=YG h2 hu;rw [hz] at h4
 cases h4;exact wf_i64 hw
instance:zf Gr where
 size:=5
 ints x:=[x.kd,x.a,x.b,x.c,x.d]
 of l:=⟨l.getD 0 0,l.getD 1 0,l.getD 2 0,l.getD 3 0,l.getD 4 0⟩
 pos:=by omega
 len _:=rfl
 inv xs h:=by
  match xs,h with
  | [a,b,c,d,e],_=>rfl
theorem afE:flat Tryz.prog 30 22=some [.sl 40 (List.replicate 5 (.int .i64))]:=by kernel_rfl
theorem Gl {W:World} {v:Value} (h:LA Tryz.prog W v 22): ∃ A c,∃ l:List Gr,v= .slice A l.length c/\Rd W W.heap.size 5 A l.length (l.flatMap Gr.cells)/\ ∀ g∈l,g.ok:=by
 obtain ⟨⟨base,hk⟩,l,hl,ha⟩:=h;rw [afE] at hl
 cases hl;obtain ⟨A,n,c,rfl⟩:=okWide_slice Tryz.underlying22 hk;obtain ⟨a,l1,e,h1,_⟩:=dL.vJ ha;simp [Value.cells] at e;obtain ⟨rfl,_⟩:=e;obtain ⟨A',n',c',l,e,hr,hn,hc,hb,h0⟩:=YO (α:=Gr) h1;have hw:=ajx (α:=Gr) h1 e hr;simp only [Value.slice.injEq] at e;obtain ⟨rfl,rfl,rfl⟩:=e;have hlen:l.length=n:=Rd.Oq (α:=Gr) hr;subst hlen;refine ⟨A,c,l,rfl,hr,λg hg=>?_⟩;have h:=hw g hg;exact ⟨h _ (by simp [ints]),h _ (by simp [ints]),h _ (by simp [ints]),h _ (by simp [ints]),h _ (by simp [ints])⟩
end
section
open ChangeShapes WideShapes RowKit
theorem Ew {gs:List Gr} {A:Option Addr} {c m:Nat} {cr:Bool} {s:List Ac} (hs:s=bF gs m cr) (hm:m<=1000) (hg: ∀ g∈gs,g.ok) (w:World) (h:Rd w w.heap.size 5 A gs.length (gs.flatMap Gr.cells)):
  Calls Tryz.prog 8 #[.slice A gs.length c,.int .i64 ((m:Nat):Int),.bool cr] w (λe w'=> ∃ A' c',e= .returned (.slice A' s.length c')/\St w.heap.size w w' [.own 57 11 (.slice A' s.length c') s.length (s.flatMap Ac.cells)]):=by
 subst hs;exact FC hm hg w h
section
variable {m m':Cl} {n q:Nat} {g g':Gh} {V:Nat->bK} {P:Nat->Option fM} {U:Nat->Bool} {Lt:iD->Prop} {pl:Pl} {sh:Nat->Int×Int} {sv:List kH}
def zI (n q:Nat) (ep:Int) (evs:List Ev) (an:List iZ) (i:Nat):kH:=⟨n,q,ep,evs.getD i aP,an.getD i eH,-1⟩
theorem yY {evs:List Ev} {an:List iZ}: ∀ (il:List Nat) (m:Cl),m.recovered n q evs an il=
  { m with aV:=m.aV++il.map (zI n q ((m.ah n).bs q).ep evs an),shown:=if il=[] then m.shown else gX m.shown n q (((m.ah n).bs q).ep,(((m.ah n).bs q).evs.length:Int)) }
 | [],m=>by simp [Cl.recovered]
 | i::r,m=>by
  rw [Cl.recovered,yY r];have e: ∀ (s:Nat->Nat->Int×Int) (p:Int×Int),gX (gX s n q p) n q p=gX s n q p:=λs p=>by
   funext a b
   unfold gX
   split<;>rfl
  unfold Cl.tell;dsimp only;rw [if_neg (by simp: ¬ i::r=[]),List.map_cons,List.append_assoc]
  congr 1
  split
  ·rfl
  exact e _ _
theorem ajy {ep:Int} {evs:List Ev} {an:List iZ} {q':Nat} (il:List Nat):(il.map (zI n q' ep evs an)).filter (λs=>decide (s.q=q))=if q'=q then il.map (zI n q' ep evs an) else []:=by
 by_cases e:q'=q
 ·rw [if_pos e];refine List.filter_eq_self.2 λs hs=>?_;obtain ⟨i,_,rfl⟩:=List.mem_map.1 hs;simp [zI,e]
 rw [if_neg e];refine List.filter_eq_nil_iff.2 λs hs=>?_;obtain ⟨i,_,rfl⟩:=List.mem_map.1 hs;simp [zI,e]
theorem Sy {G:List Ev} {ep:Int} (hg:good G): ∀ (d F:Nat) {sv:List kH},F+d=G.length->rp dV sv=some (aH (G.take F)).1->rp dV (sv++((List.range G.length).drop F).map (zI n q ep G (aH G).2.1))=some (aH G).1
 | 0,F,sv,hF,h=>by
  rw [Nat.add_zero] at hF;rw [List.drop_of_length_le (by rw [List.length_range];omega),List.map_nil,List.append_nil,h,hF,List.take_length]
 | d+1,F,sv,hF,h=>by
  have hlt:F<G.length:=by omega
  have hlr:F< (List.range G.length).length:=by rw [List.length_range];exact hlt
  rw [List.drop_eq_getElem_cons hlr,List.getElem_range,List.map_cons];rw [show sv++zI n q ep G (aH G).2.1 F::((List.range G.length).drop (F+1)).map (zI n q ep G (aH G).2.1)=(sv++[zI n q ep G (aH G).2.1 F])++((List.range G.length).drop (F+1)).map (zI n q ep G (aH G).2.1) by rw [List.append_assoc];rfl];refine Sy hg d (F+1) (by omega) ?_;have hs:=oI hlt;have hg2:good (G.take F++[G[F]]):=by rw [<-hs];exact qL hg
  obtain ⟨s1,s2,s3⟩:=good_step hg2;have ha:=RX _ rfl hg F hlt;have e1:(zI n q ep G (aH G).2.1 F).op=G[F]:=by
   show G.getD F aP=_
   rw [List.getD_eq_getElem?_getD,List.getElem?_eq_getElem hlt];rfl
  have e2:(zI n q ep G (aH G).2.1 F).ans=(iL (aH (G.take F)).1 G[F]).2.1:=by
   show (aH G).2.1.getD F eH=_
   rw [List.getD_eq_getElem?_getD,ha];rfl
  rw [Dv h (by rw [e1];exact s1) (by rw [e1,e2]),e1,hs,s3]
def QD (m:Cl) (q:Nat) (g:Gh) (n:Nat):Prop:=Inv g (vw m q) (zq m q) (upd (DI m) n false) (Mf m q) (m.off.at q) (zu m q) (zo m q)
noncomputable def vL (n:Nat) (bs:Nat->bK) (m:Cl) (q:Nat):Cl:=if (bs q).role≠1 then m else ((m.recover n q).aZ n q (eU (bs q)).1).tell n q aM eH (-1)
theorem Dc {bs:Nat->bK}: ∀ (ql:List Nat) (m:Cl),Cl.woken n bs ql m=ql.foldl (vL n bs) m
 | [],m=>rfl
 | q::r,m=>by
  rw [Cl.woken,List.foldl_cons];unfold vL
  split
  ·exact Dc r m
  exact Dc r _
structure W1 (m m':Cl) (n q':Nat):Prop where
 ah: ∃ b,m'.ah=upd m.ah n { m.ah n with bs:=upd (m.ah n).bs q' b }
 fly:m'.fly=m.fly
 off:m'.off=m.off
 sh: ∀ q,q'≠q->zu m' q=zu m q
 sv: ∀ q,q'≠q->zo m' q=zo m q
theorem KR (m:Cl) (n q':Nat): ∃ ss p,m.recover n q'={ m with aV:=m.aV++ss,shown:=p }/\(∀ s∈ss,s.q=q')/\ ∀ a b,b≠q'->p a b=m.shown a b:=by
 unfold Cl.recover
 split
 ·exact ⟨_,_,rfl,λs hs=>by rw [List.mem_singleton] at hs;subst hs;rfl,λa b hb=>by unfold gX;rw [if_neg (λe=>hb e.2)]⟩
 rw [yY];refine ⟨_,_,rfl,λs hs=>?_,λa b hb=>?_⟩
 ·obtain ⟨i,_,rfl⟩:=List.mem_map.1 hs;rfl
 split
 ·rfl
 unfold gX;rw [if_neg (λe=>hb e.2)]
theorem abz {ss:List kH} {q':Nat} (h: ∀ s∈ss,s.q=q') (hq:q'≠q):ss.filter (λs=>decide (s.q=q))=[]:=List.filter_eq_nil_iff.2 λs hs=>by rw [h s hs];simp [hq]
theorem Ey {bs:Nat->bK} (m:Cl) (n q':Nat):W1 m (vL n bs m q') n q':=by
 unfold vL
 split
 ·exact ⟨⟨(m.ah n).bs q',by rw [aI (f:=(m.ah n).bs) rfl];exact zY⟩,rfl,rfl,λ_ _=>rfl,λ_ _=>rfl⟩
 obtain ⟨ss,p,e,h1,h2⟩:=KR m n q';rw [e];refine ⟨⟨(eU (bs q')).1,rfl⟩,rfl,rfl,λq hq=>?_,λq hq=>?_⟩
 ·show (λj=>gX p n q' _ j q)=_
  rw [NS hq]
  funext j
  exact h2 j q (λe=>hq e.symm)
 show ((m.aV++ss)++_).filter _=_
 rw [sW,if_neg hq,List.append_nil,List.filter_append,abz h1 hq,List.append_nil];rfl
theorem QD.far (I:QD m q g n) (hn:n<5) (hu:(m.ah n).up=true) {q':Nat} (hq:q'≠q) (W:W1 m m' n q'):QD m' q g n/\vw m' q=vw m q/\(m'.ah n).up=true/\(m'.ah n).bs q=(m.ah n).bs q/\(m'.ah n).pend=(m.ah n).pend:=by
 obtain ⟨b,hb⟩:=W.ah;have gF:({ m.ah n with bs:=upd (m.ah n).bs q' b }:Nd).view q=(m.ah n).view q:=by
  rw [gK (X:={ m.ah n with bs:=upd (m.ah n).bs q' b }) hu,gK hu];exact upd_ne (λe=>hq e.symm)
 have hvw:=nS hb gF;have hun:DI m'=DI m:=lK hb rfl;refine ⟨?_,hvw,by rw [hb,upd_same];exact hu,by rw [hb,upd_same];exact upd_ne (λe=>hq e.symm),by rw [hb,upd_same]⟩;unfold QD;rw [hvw,rP hb rfl,hun,W.off,W.sh q hq,W.sv q hq];exact I.yA λx hx=>by
  obtain ⟨x1,x2⟩:=hx
  rcases x2 with x2 | ⟨j,hj,x2⟩
  ·rw [W.fly] at x2;exact .inl ⟨x1,.inl x2⟩
  rw [hb] at x2;by_cases e:j=n
  ·subst e;rw [upd_same] at x2;exact .inl ⟨x1,.inr ⟨j,hj,x2⟩⟩
  rw [upd_ne e] at x2;exact .inl ⟨x1,.inr ⟨j,hj,x2⟩⟩
theorem QD.aCg (I:QD m q g n) (hn:n<5) (hu:(m.ah n).up=true) (hr:((m.ah n).bs q).role=1):QD (m.recover n q) q g.all n/\n=g.o/\(m.recover n q).ah=m.ah:=by
 have hV:=Cn (q:=q) hu;have ho:n=g.o:=I.oEp hn (by rw [hV];exact .inl hr);have dZ:((m.ah n).bs q).ep=g.m:=by rw [<-hV,ho];exact I.zT
 have hev:((m.ah n).bs q).evs=g.G:=by rw [<-hV,ho];exact I.KG
 refine ⟨?_,ho,?_⟩
 ·unfold Cl.recover;by_cases c:(m.shown n q).1≠((m.ah n).bs q).ep
  ·rw [if_pos c];have ht: ¬ g.t=g.m:=λe=>by
    rcases I.KH with ⟨_,h,_⟩ | ⟨h,_⟩
    ·apply c;have h':m.shown g.o q=_:=h;rw [dZ,ho,h']
    omega
   have I2:=I.Yv ht (s:=⟨n,q,g.m,aM,eH,-1⟩) rfl rfl rfl ho;unfold QD;have e1:zu (m.tell n q aM eH (-1)) q=upd (zu m q) g.o ((g.m:Int),(g.G.length:Int)):=by
    show (λj=>gX m.shown n q _ j q)=_
    rw [Fg,dZ,hev,ho];rfl
   have e2:zo (m.tell n q aM eH (-1)) q=zo m q++[⟨n,q,g.m,aM,eH,-1⟩]:=by
    show (m.aV++_).filter _=_
    rw [sW,if_pos rfl,dZ];rfl
   rw [e1,e2];exact I2
  rw [if_neg c,yY,dZ,hev];have c':(m.shown n q).1=((m.ah n).bs q).ep:=Classical.not_not.1 c
  rcases I.KH with ⟨h1,h2,h3⟩ | ⟨_,h2,_⟩
  ·have hsh:m.shown n q=((g.m:Int),(g.F:Int)):=by rw [ho];exact h2
   rw [hsh];dsimp only;rw [Int.toNat_natCast];have hrp:=Sy (n:=n) (q:=q) (ep:=(g.m:Int)) I.gd (g.G.length-g.F) g.F (by omega) I.rps;have I2:=I.told h1 hrp λs hs=>by
    obtain ⟨i,_,rfl⟩:=List.mem_map.1 hs;exact ⟨rfl,ho⟩
   unfold QD;have e2:zo { m with aV:=m.aV++((List.range g.G.length).drop g.F).map (zI n q (g.m:Int) g.G (aH g.G).2.1),shown:=if (List.range g.G.length).drop g.F=[] then m.shown else gX m.shown n q ((g.m:Int),(g.G.length:Int)) } q=zo m q++((List.range g.G.length).drop g.F).map (zI n q (g.m:Int) g.G (aH g.G).2.1):=by
    show (m.aV++_).filter _=_
    rw [List.filter_append,ajy,if_pos rfl];rfl
   have e1:zu { m with aV:=m.aV++((List.range g.G.length).drop g.F).map (zI n q (g.m:Int) g.G (aH g.G).2.1),shown:=if (List.range g.G.length).drop g.F=[] then m.shown else gX m.shown n q ((g.m:Int),(g.G.length:Int)) } q=upd (zu m q) g.o ((g.m:Int),(g.G.length:Int)):=by
    unfold zu;dsimp only
    split
    ·rename_i hnil
     have:=congrArg List.length hnil;rw [List.length_drop,List.length_range,List.length_nil] at this;refine (aI ?_).symm;rw [<-ho,hsh];have:g.F=g.G.length:=by omega
     rw [this]
    rw [Fg,ho]
   rw [e1,e2];exact I2
  exfalso
  have h2':(m.shown g.o q).1<g.m:=h2;rw [<-ho,c',dZ] at h2';omega
 obtain ⟨ss,p,e,_,_⟩:=KR m n q;rw [e]
theorem QD.near {bs:Nat->bK} (I:QD m q g n) (hn:n<5) (hu:(m.ah n).up=true) (hp:(m.ah n).pend=none) (hb:(m.ah n).bs q=bs q) (hr:(bs q).role=1) (hw:eU (bs q)=(iy (bs q),0)) (hf:au (iy (bs q))=0) (hfb:au (bs q)=0):
  ∃ g',QD (vL n bs m q) q g' n/\mg g g'/\g'.m=g.m/\g'.o=n/\n=g.o/\g'.t=g'.m/\g'.F=g'.G.length:=by
 obtain ⟨I1,ho,yZ⟩:=I.aCg hn hu (by rw [hb];exact hr);have hV1:vw (m.recover n q) q n=bs q:=by
  unfold vw;rw [yZ,gK hu];exact hb
 have asM:vw (m.recover n q) q g.o=bs q:=by rw [<-hV1];congr 1;exact ho.symm
 have dZ:(bs q).ep=g.m:=by rw [<-asM];exact I1.zT
 have hev:(bs q).evs=g.G:=by rw [<-asM];exact I1.KG
 have hgd:good (g.G++[aM]):=by have:=(dQ hf).2;unfold iy at this;rw [hev] at this;exact this
 have hs:=fO hfb;unfold bD at hs;have qo:(bs q).tg=0:=by omega
 have hpn:zq (m.recover n q) q g.all.o=none:=by
  show pq q ((m.recover n q).ah g.o).pend=none
  rw [yZ,<-ho,hp];rfl
 have huf:upd (DI (m.recover n q)) n false g.all.o=false:=by show upd _ n false g.o=false;rw [<-ho];exact upd_same _ _ _
 have hVo:vw (m.recover n q) q g.all.o=bs q:=by show vw (m.recover n q) q g.o=_;rw [<-ho];exact hV1
 have I2:=Inv.append (e:=aM) (b:=iy (bs q)) I1 hpn huf (by rw [hVo];omega) rfl hgd (by rw [hVo];rfl) (by rw [hVo];exact hr.symm) (by rw [hVo];exact qo.symm) (by show (bs q).evs++[aM]=_;rw [hev];rfl);obtain ⟨s1,s2,s3⟩:=good_step hgd;have aCh:rp dV (zo (m.recover n q) q)=some (aH g.G).1:=by
  have:=I1.rps;rwa [show g.all.G.take g.all.F=g.G from List.take_length] at this
 have I3:=I2.told (sv2:=[⟨n,q,g.m,aM,eH,-1⟩]) rfl (by rw [Dv aCh s1 (ac9 s2)];show _=some (aH (g.G++[aM])).1;rw [s3]) λs hs=>by rw [List.mem_singleton] at hs;subst hs;exact ⟨rfl,ho⟩
 refine ⟨(g.all.app aM).all,?_,⟨Nat.le_refl _,λ_ _=>rfl,by show (g.G++[aM]).length<=_;simp⟩,rfl,ho.symm,ho,rfl,rfl⟩;unfold vL;rw [if_neg (λh=>h hr),hw];have dS:(((m.recover n q).aZ n q (iy (bs q))).tell n q aM eH (-1)).ah=upd (m.recover n q).ah n (((m.recover n q).ah n).aZ q (iy (bs q))):=rfl;have hur:((m.recover n q).ah n).up=true:=by rw [yZ];exact hu
 have gF:(((m.recover n q).ah n).aZ q (iy (bs q))).view q=iy (bs q):=by rw [gK (X:=((m.recover n q).ah n).aZ q _) hur];exact upd_same _ _ _
 have e0:(((m.recover n q).aZ n q (iy (bs q))).ah n).bs q=iy (bs q):=by
  show ((upd (m.recover n q).ah n _) n).bs q=_
  rw [upd_same];exact upd_same _ _ _
 unfold QD;have e1:zu (((m.recover n q).aZ n q (iy (bs q))).tell n q aM eH (-1)) q=upd (zu (m.recover n q) q) g.o ((g.m:Int),((g.G++[aM]).length:Int)):=by
  show (λj=>gX (m.recover n q).shown n q _ j q)=_
  rw [Fg,e0]
  show upd _ n ((bs q).ep,((((bs q).evs++[aM]).length:Nat):Int))=_
  rw [dZ,hev,ho];rfl
 have e2:zo (((m.recover n q).aZ n q (iy (bs q))).tell n q aM eH (-1)) q=zo (m.recover n q) q++[⟨n,q,g.m,aM,eH,-1⟩]:=by
  show ((m.recover n q).aV++_).filter _=_
  rw [sW,if_pos rfl,e0]
  show _++[(⟨n,q,(bs q).ep,aM,eH,-1⟩:kH)]=_
  rw [dZ];rfl
 have e3:vw (((m.recover n q).aZ n q (iy (bs q))).tell n q aM eH (-1)) q=upd (vw (m.recover n q) q) g.all.o (iy (bs q)):=by
  rw [tN dS,gF]
  show upd _ n _=upd _ g.o _
  rw [<-ho]
 rw [e1,e2,e3,rP dS rfl,lK dS rfl];exact I3.yA λx hx=>by
  obtain ⟨x1,x2⟩:=hx
  rcases x2 with x2 | ⟨j,hj,x2⟩
  ·exact .inl ⟨x1,.inl x2⟩
  rw [dS] at x2;by_cases e:j=n
  ·subst e;rw [upd_same] at x2;exact .inl ⟨x1,.inr ⟨j,hj,x2⟩⟩
  rw [upd_ne e] at x2;exact .inl ⟨x1,.inr ⟨j,hj,x2⟩⟩
theorem Sz {bs:Nat->bK} (hn:n<5): ∀ (ql:List Nat) {m:Cl},QD m q g n->(m.ah n).up=true->q ∉ ql->QD (ql.foldl (vL n bs) m) q g n/\vw (ql.foldl (vL n bs) m) q=vw m q
 | [],m,I,_,_=>⟨I,rfl⟩
 | q'::r,m,I,hu,hq=>by
  rw [List.mem_cons,not_or] at hq;obtain ⟨I1,e1,h1,_,_⟩:=I.far hn hu (λe=>hq.1 e.symm) (Ey (bs:=bs) m n q');obtain ⟨I2,e2⟩:=Sz hn r I1 h1 hq.2;exact ⟨I2,e2.trans e1⟩
theorem Oj {bs:Nat->bK} (hn:n<5) (hr:(bs q).role=1) (hw:eU (bs q)=(iy (bs q),0)) (hf:au (iy (bs q))=0) (hfb:au (bs q)=0): ∀ (ql:List Nat) {m:Cl},QD m q g n->(m.ah n).up=true->(m.ah n).pend=none->(m.ah n).bs q=bs q->q∈ql->ql.Nodup->
  ∃ g',QD (ql.foldl (vL n bs) m) q g' n/\mg g g'/\g'.m=g.m/\g'.o=n/\n=g.o/\g'.t=g'.m/\g'.F=g'.G.length
 | [],m,_,_,_,_,hq,_=>by simp at hq
 | q'::r,m,I,hu,hp,hb,hq,hnd=>by
  obtain ⟨h1,h2⟩:=List.nodup_cons.1 hnd;rw [List.foldl_cons];by_cases e:q'=q
  ·subst e;obtain ⟨g',I1,N1,k1,k2,k3,k4,k5⟩:=I.near hn hu hp hb hr hw hf hfb;obtain ⟨b,hW⟩:=(Ey (bs:=bs) m n q').ah;have hu1:((vL n bs m q').ah n).up=true:=by rw [hW,upd_same];exact hu
   obtain ⟨I2,_⟩:=Sz hn r I1 hu1 h1;exact ⟨g',I2,N1,k1,k2,k3,k4,k5⟩
  have hq':q∈r:=by
   rcases List.mem_cons.1 hq with h | h
   ·exact absurd h.symm e
   exact h
  obtain ⟨I1,e1,u1,b1,p1⟩:=I.far hn hu e (Ey (bs:=bs) m n q');exact Oj hn hr hw hf hfb r I1 u1 (p1.trans hp) (b1.trans hb) hq' h2
theorem J4 {s:Int} {f:Nat->bK}: ∀ (ql:List Nat) {d d':List UInt8},eF s f ql d=some d'->d'.length<=d.length+46*ql.length
 | [],d,d',h=>by cases h;simp
 | q::r,d,d',h=>by
  rw [eF] at h;rw [List.length_cons]
  split at h
  ·have:=J4 r h;omega
  split at h
  ·cases h
  split at h
  ·cases h
  rename_i d2 hw
  obtain ⟨w1,_,_⟩:=rO hw;have h1:=J4 r h;have h2:=En [fI 2 q (f q).ep 0 aM];rw [w1,List.length_append] at h1;simp only [List.length_cons,List.length_nil] at h2;omega
theorem abB {T S D K:Nat} (I:QI m q g) (hB:fJ m T S D K) (hn:n<5) (hq:q<4):(∃ g',QI (m.start n) q g'/\mg g g'/\Co q g g' m (m.start n))/\ ∀ j,((m.start n).ah j).data.length<=(m.ah j).data.length+184:=by
 rcases Hg (hB.kW n hn) with ⟨_,e⟩ | ⟨hu,rs,t,f,hd,e | ⟨ws,e1,e2,e3,W,e5,e6,e7⟩⟩
 ·rw [e];exact ⟨⟨g,I,.refl g,λ_ h=>h⟩,λ_=>Nat.le_add_right _ _⟩
 ·rw [e];exact ⟨⟨g,I,.refl g,λ_ h=>h⟩,λ_=>Nat.le_add_right _ _⟩
 have hin:q∈[0,1,2,3]:=by
  have h:q=0\/q=1\/q=2\/q=3:=by omega
  rcases h with rfl | rfl | rfl | rfl<;>decide
 have hvb:=hd.rd.2.2 q hq;have hVn:vw m q n=f q:=hd.view hu hq;obtain ⟨hfb,hr2⟩:=hd.nu q hq;obtain ⟨m1,hm1⟩: ∃ m1,m1=m.put n { (m.ah n).blank with up:=true,data:=bJ (rs++ws),syn:=(bJ (rs++ws)).length,bs:=bI (m.ah n).data (m.ah n).syn }:=⟨_,rfl⟩;have yZ:m1.ah=upd m.ah n { (m.ah n).blank with up:=true,data:=bJ (rs++ws),syn:=(bJ (rs++ws)).length,bs:=bI (m.ah n).data (m.ah n).syn }:=by rw [hm1];rfl
 have apv:({ (m.ah n).blank with up:=true,data:=bJ (rs++ws),syn:=(bJ (rs++ws)).length,bs:=bI (m.ah n).data (m.ah n).syn }:Nd).view q=(m.ah n).view q:=by
  rw [gK rfl];unfold Nd.view;rw [if_neg (by rw [hu];simp)]
 have amH:=nS yZ apv;have aCi:zq m1 q=zq m q:=rP yZ (by rw [hd.tL];rfl);have aCj:upd (DI m1) n false=DI m:=by rw [UG yZ,sS];exact aI hu
 have I1:QD m1 q g n:=by
  unfold QD;rw [amH,aCi,aCj];have hoff:m1.off=m.off:=by rw [hm1];rfl
  have hsh:zu m1 q=zu m q:=by rw [hm1];rfl
  have hsv:zo m1 q=zo m q:=by rw [hm1];rfl
  rw [hoff,hsh,hsv];exact I.yA (xk yZ (λx hx=>by cases hx) hn (by rw [hm1];rfl))
 have hu1:(m1.ah n).up=true:=by rw [yZ,upd_same]
 have hp1:(m1.ah n).pend=none:=by rw [yZ,upd_same];rfl
 have hb1:(m1.ah n).bs q=bI (m.ah n).data (m.ah n).syn q:=by rw [yZ,upd_same]
 have eX:(m.start n).ah=upd m.ah n { (m.ah n).blank with up:=true,data:=bJ (rs++ws),syn:=(bJ (rs++ws)).length,bs:=λq=>if q∈[0,1,2,3]/\(bI (m.ah n).data (m.ah n).syn q).role=1 then iy (bI (m.ah n).data (m.ah n).syn q) else bI (m.ah n).data (m.ah n).syn q }:=by
  rw [W.ah,bM];exact sS _ _ _ _
 have asN:DI (m.start n)=upd (upd (DI (m.start n)) n false) n true:=by
  rw [sS];refine (aI ?_).symm;unfold DI;rw [eX,upd_same]
 rw [<-hm1,Dc] at e1;refine ⟨?_,λj=>?_⟩
 ·by_cases hr:(bI (m.ah n).data (m.ah n).syn q).role=1
  ·have hf1:au (iy (bI (m.ah n).data (m.ah n).syn q))=0:=by rw [hvb] at hr⊢;exact e7 q hq hr
   have hw1:eU (bI (m.ah n).data (m.ah n).syn q)=(iy (bI (m.ah n).data (m.ah n).syn q),0):=by
    unfold eU;rw [if_neg (λh=>h (by rw [hvb];exact hfb)),if_neg (by omega),if_neg (λh=>h hf1)];rfl
   obtain ⟨g',I2,N2,k1,k2,k3,k4,k5⟩:=Oj hn hr hw1 hf1 (by rw [hvb];exact hfb) [0,1,2,3] I1 hu1 hp1 hb1 hin (by decide);rw [<-e1] at I2;have I3:=Inv.up I2 n λ_=>⟨k4,k5⟩;refine ⟨g',?_,N2,λ_ h=>?_⟩
   ·unfold QI;rw [asN];exact I3
   rw [<-k3,hVn,<-hvb] at h;omega
  have abC:QD (m.start n) q g n/\vw (m.start n) q=vw m1 q:=by
   rw [e1];have key: ∀ (ql:List Nat) {m':Cl},QD m' q g n->(m'.ah n).up=true->QD (ql.foldl (vL n (bI (m.ah n).data (m.ah n).syn)) m') q g n/\vw (ql.foldl (vL n (bI (m.ah n).data (m.ah n).syn)) m') q=vw m' q:=by
    intro ql
    induction ql with
    | nil=>intro m' I' _;exact ⟨I',rfl⟩
    | cons q' r ih=>
     intro m' I' hu';rw [List.foldl_cons];by_cases e:q'=q
     ·subst e;have:vL n (bI (m.ah n).data (m.ah n).syn) m' q'=m':=if_pos hr;rw [this];exact ih I' hu'
     obtain ⟨I3,v3,u3,_,_⟩:=I'.far hn hu' e (Ey (bs:=bI (m.ah n).data (m.ah n).syn) m' n q');obtain ⟨I4,v4⟩:=ih I3 u3;exact ⟨I4,v4.trans v3⟩
   exact key _ I1 hu1
  have hst:n=g.o->g.t=g.m/\g.F=g.G.length:=λho=>by
   have h3:(vw (m.start n) q g.o).role=3:=by
    rw [abC.2,amH,<-ho,hVn];have:=I.arl;rw [<-ho,hVn] at this;rw [hvb] at hr;omega
   have hF:=abC.1.slF h3;refine ⟨?_,hF⟩
   rcases abC.1.KH with h | ⟨_,_,_,h,_⟩
   ·exact h.1
   omega
  have I3:=Inv.up abC.1 n hst;refine ⟨g,?_,.refl g,λ_ h=>by rw [abC.2,amH];exact h⟩;unfold QI;rw [asN];exact I3
 rw [eX];by_cases e:j=n
 ·subst e;rw [upd_same]
  show (bJ (rs++ws)).length<=_
  have hww:=J4 [0,1,2,3] e3;rw [hd.rd.1] at hww;dsimp only at hww;have:=congrArg List.length hd.data;rw [List.length_append] at this;simp only [List.length_cons,List.length_nil] at hww;omega
 rw [upd_ne e];exact Nat.le_add_right _ _
end
section
variable {m m' m2:Cl} {n q k:Nat} {g g' g2:Gh}
theorem afF {T S D K:Nat} (hB:fJ m T S D K) (hn:n<5) {j:Nat} (hj:j≠n):(m.step n).ah j=m.ah j:=by
 cases hu:(m.ah n).up with
 | false=>rw [Bd hu]
 | true=>
  obtain ⟨rs,us,hU⟩:=(hB.kW n hn).Le hu
  cases hp:(m.ah n).pend with
  | some p=>
   obtain ⟨h1,h2,h3⟩:=hU.UD p hp;obtain ⟨_,hf⟩:=oJ hU.tape hU.nu h2 h3;obtain ⟨Y,y1,_⟩:=UF rfl hu hp h3 hf h2;rw [y1,upd_ne hj]
  | none=>
   have R:=Sl hu ⟨us,hU⟩ λl hl=>Em (hB.mK n hn l hl);rw [uD hu hp]
   split
   ·show upd (m.more n).ah n _ j=_
    rw [upd_ne hj];exact R.uN j hj
   exact R.uN j hj
theorem Ol (m:Cl) (l:iD) (j:Nat):((m.come l).ah j).data=(m.ah j).data:=by
 unfold Cl.come
 split
 ·rfl
 split
 ·split<;>rfl
 split
 ·show ((upd m.ah l.tg.toNat _) j).data=_
  by_cases e:j=l.tg.toNat
  ·rw [e,upd_same]
  rw [upd_ne e]
 rfl
theorem KS: ∀ (ls:List iD) (m:Cl) (j:Nat),((ls.foldl Cl.come m).ah j).data=(m.ah j).data
 | [],_,_=>rfl
 | l::ls,m,j=>(KS ls (m.come l) j).trans (Ol m l j)
theorem abD (m:Cl) (at_:Nat) (c s:Bool) (j:Nat):((m.pick at_ c s).ah j).data=(m.ah j).data:=by
 unfold Cl.pick
 split
 ·rfl
 dsimp only
 split
 ·rw [Ol]
  split<;>rfl
 split<;>rfl
structure Later (q:Nat) (g g':Gh) (m m':Cl):Prop where
 mle:g.m<=g'.m
 own: ∀ k,k<=g.m->g'.own k=g.own k
 iN:Co q g g' m m'
theorem Later.refl:Later q g g m m:=⟨Nat.le_refl _,λ_ _=>rfl,λ_ h=>h⟩
theorem Later.trans (h:Later q g g' m m') (h':Later q g' g2 m' m2):Later q g g2 m m2:=by
 refine ⟨Nat.le_trans h.mle h'.mle,λk hk=>(h'.own k (Nat.le_trans hk h.mle)).trans (h.own k hk),λe h3=>?_⟩;have h1:=h.mle;have h2:=h'.mle;have e1:g'.m=g.m:=by omega
 have eo:g'.o=g.o:=by unfold Gh.o;rw [e1];exact h.own _ (Nat.le_refl _)
 have:=h'.iN (by omega) (by rw [eo];exact h.iN e1 h3);rwa [eo] at this
theorem mg.later (h:mg g g') (h':Co q g g' m m'):Later q g g' m m':=⟨h.m,h.own,h'⟩
structure LW (m:Cl) (q:Nat) (g:Gh) (k:Nat):Prop where
 qi:QI m q g
 alT:g.G.length<=k
 data: ∀ n,n<5->(m.ah n).data.length<=184*k
theorem ajz {a:Ac} (h:LW m q g k) (hB:Bs m k) (ha:Lf a) (h1:a.kd≠1) (hq:q<4) (hk:k<=540): ∃ g',LW (m.act a) q g' (k+1)/\Later q g g' m (m.act a):=by
 obtain ⟨I,hG,hD⟩:=h;obtain ⟨a1,a2,a3,a4,a5,a6⟩:=ha;have hn:a.nd.toNat<5:=by omega
 have hqu:a.qu.toNat<4:=by omega
 have fin: ∀ {m':Cl} {g':Gh},QI m' q g'->mg g g'->Co q g g' m m'->(∀ n,n<5->(m'.ah n).data.length<=(m.ah n).data.length+184)-> ∃ g',LW m' q g' (k+1)/\Later q g g' m m':=λ{m' g'} I' N s hd=>
  ⟨g',⟨I',by have:=N.alT;omega,λn hn=>by have:=hd n hn;have:=hD n hn;omega⟩,N.later s⟩
 unfold Cl.act;rw [if_neg h1]
 split
 ·obtain ⟨I2,e2⟩:=ae5 (l:=Qc a.nd a.qu.toNat a.op m.calls) (c:=m.calls+1) I rfl;exact fin I2 (.refl g) (λ_ h=>by rw [e2];exact h) λn _=>Nat.le_add_right _ _
 split
 ·obtain ⟨⟨g',I2,N2,s2⟩,d2⟩:=ae3 I hB hn (by have:=hD _ hn;omega) (by omega);refine fin I2 N2 s2 λj hj=>?_;by_cases e:j=a.nd.toNat
  ·rw [e];exact d2
  rw [afF hB hn e];exact Nat.le_add_right _ _
 split
 ·obtain ⟨I2,e2⟩:=ae4 (at_:=a.at_.toNat) (c:=decide (a.kd≠5)) (s:=decide (a.kd=6)) I hB.vE hq;exact fin I2 (.refl g) (λ_ h=>by rw [e2];exact h) λn _=>by rw [abD];exact Nat.le_add_right _ _
 split
 ·obtain ⟨I2,e2⟩:=ajf I hB.vE hq;refine fin I2 (.refl g) (λ_ h=>by rw [e2];exact h) λn _=>?_;unfold Cl.all;rw [KS];exact Nat.le_add_right _ _
 split
 ·obtain ⟨⟨g',I2,N2,s2⟩,d2⟩:=aaO (keep:=a.kp) I hB hn hq a5.1;exact fin I2 N2 s2 λj _=>Nat.le_add_right_of_le (d2 j)
 split
 ·obtain ⟨⟨g',I2,N2,s2⟩,d2⟩:=abB I hB hn hq;exact fin I2 N2 s2 λj _=>d2 j
 obtain ⟨I2,s2,d2⟩:=ae6 (tg:=a.nd) I hB hqu hq;exact fin I2 (.refl g) (λ_ h=>s2 h) λj _=>by rw [d2 j];exact Nat.le_add_right _ _
theorem O6 (hq:q<4): ∀ (l:List Ac) {m:Cl} {g:Gh} {k:Nat},LW m q g k->Bs m k->(∀ a∈l,Lf a/\a.kd≠1)->k+l.length<=540-> ∃ g',LW (m.run l) q g' (k+l.length)/\Bs (m.run l) (k+l.length)/\Later q g g' m (m.run l)
 | [],m,g,k,h,hB,_,_=>⟨g,h,hB,.refl⟩
 | a::l,m,g,k,h,hB,ha,hk=>by
  rw [List.length_cons] at hk;obtain ⟨a1,a2⟩:=ha a (by simp);obtain ⟨g1,h1,r1⟩:=ajz h hB a1 a2 hq (by omega);obtain ⟨g2,h2,b2,r2⟩:=O6 hq l h1 (Jp hB a1 (by omega)) (λx hx=>ha x (by simp [hx])) (by omega);rw [List.length_cons,show k+(l.length+1)=k+1+l.length by omega];exact ⟨g2,h2,b2,r1.trans r2⟩
end
def abE (n q:Nat):Ac:=⟨1,n,q,0,0,0,0,0,0,0,0⟩
theorem akZ {n q:Nat} (hn:n<5) (hq:q<4):Lf (abE n q):=⟨by show (1:Int)<=1/\(1:Int)<=10;omega,by show 0<=(n:Int)/\(n:Int)<=4;omega,by show 0<=(q:Int)/\(q:Int)<=3;omega,by show (0:Int)<=0/\(0:Int)<=1048576;omega,by show (0:Int)<=0/\(0:Int)<=100000;omega,λh=>absurd (show (1:Int)=2 from h) (by decide)⟩
theorem YH {m:Cl} {n q:Nat} {d:Dir} {x:List UInt8} (hu:(m.ah n).up=true) (hp:(m.ah n).pend=none) (hd:rC m.off q n=(d,0)) (hb:iX ((m.ah n).bs q) 1=(⟨1,1,0,0,0,[]⟩,0)) (hw:eG (m.ah n).data (m.ah n).syn [fI 1 q 1 0 aP]=some x):
  m.make n q={ m.put n { m.ah n with data:=x,syn:=x.length,bs:=upd (m.ah n).bs q ⟨1,1,0,0,0,[]⟩ } with off:=d,shown:=gX m.shown n q (1,0) }:=by
 obtain ⟨X,hX⟩: ∃ X,m.ah n=X:=⟨_,rfl⟩;rw [hX] at hu hp hb hw⊢;unfold Cl.make Nd.write;rw [hX,hd,hb,hw,if_neg (by rw [hu,hp];simp),if_neg (by simp)];rfl
def Ct (q:Nat):List UInt8:=bJ [fI 1 q 1 0 aP]
def Cu (q:Nat):Nd:={ nd0 with data:=Ct q,syn:=(Ct q).length,bs:=upd (λ_=>bG) q ⟨1,1,0,0,0,[]⟩ }
def abF:Cl:={ fG with ah:=upd fG.ah 0 (Cu 0),off:=⟨⟨0,1⟩,nowhere,nowhere,nowhere⟩,shown:=gX fG.shown 0 0 (1,0) }
def yH:Cl:={ fG with ah:=upd (upd fG.ah 0 (Cu 0)) 1 (Cu 1),off:=⟨⟨0,1⟩,⟨1,1⟩,nowhere,nowhere⟩,shown:=gX (gX fG.shown 0 0 (1,0)) 1 1 (1,0) }
theorem ak0 {q:Nat} (hq:q<4):eG nd0.data nd0.syn [fI 1 q 1 0 aP]=some (Ct q):=by
 have:=C8 (rs:=[fI 1 q 1 0 aP]) (l:=[]) (s:=0) (λr hr=>by rw [List.mem_singleton] at hr;subst hr;exact xJ (by omega) hq (by omega) (by omega) (by decide)) (by omega) (by simp) (by simp);rw [List.nil_append] at this;exact this
theorem dmk {d:Dir} {q n:Nat} (hd: ∀ k,k<4->xV (d.at k)) (hq:q<4) (hn:n<5) (ha:d.at q=nowhere):rC d q n=(d.set q ⟨n,1⟩,0):=by
 unfold rC;rw [Ot (Gv hd) (by omega)];dsimp only;rw [if_neg (by simp),if_neg (by omega),if_neg (by rw [Int.toNat_natCast];exact λh=>h ha),Int.toNat_natCast]
theorem UR:fG.act (abE 0 0)=abF:=by
 show fG.make 0 0=_
 rw [YH (d:=⟨⟨0,1⟩,nowhere,nowhere,nowhere⟩) (x:=Ct 0) rfl rfl (dmk (d:=⟨nowhere,nowhere,nowhere,nowhere⟩) (q:=0) (n:=0) (λk hk=>by
  have h:k=0\/k=1\/k=2\/k=3:=by omega
  rcases h with rfl | rfl | rfl | rfl<;>exact .inl ⟨rfl,rfl⟩) (by omega) (by omega) rfl) (OT (q:=0) OV rfl (by decide) (by omega)).1 (ak0 (by omega))]
 rfl
theorem adF:abF.act (abE 1 1)=yH:=by
 show abF.make 1 1=_
 rw [YH (d:=⟨⟨0,1⟩,⟨1,1⟩,nowhere,nowhere⟩) (x:=Ct 1) rfl rfl (dmk (d:=⟨⟨0,1⟩,nowhere,nowhere,nowhere⟩) (q:=1) (n:=1) (λk hk=>by
  have h:k=0\/k=1\/k=2\/k=3:=by omega
  rcases h with rfl | rfl | rfl | rfl<;>first | exact .inl ⟨rfl,rfl⟩ | exact .inr ⟨by decide,by decide,by decide,by decide⟩) (by omega) (by omega) rfl) (OT (q:=1) OV rfl (by decide) (by omega)).1 (ak0 (by omega))]
 rfl
def g0 (q:Nat):Gh:=⟨1,λ_=>q,λ_=>0,[],0,1⟩
theorem avn {q:Nat} (hq:q<2):LW yH q (g0 q) 2:=by
 have hV: ∀ n,vw yH q n=if n=q then ⟨1,1,0,0,0,[]⟩ else bG:=λn=>by
  have hup:(yH.ah n).up=true:=by
   show (upd (upd fG.ah 0 (Cu 0)) 1 (Cu 1) n).up=true
   unfold upd
   split
   ·rfl
   split<;>rfl
  rw [Cn hup]
  show (upd (upd fG.ah 0 (Cu 0)) 1 (Cu 1) n).bs q=_
  have h:q=0\/q=1:=by omega
  rcases h with rfl | rfl
  ·by_cases e1:n=1
   ·subst e1;rfl
   by_cases e0:n=0
   ·subst e0;rfl
   rw [upd_ne e1,upd_ne e0,if_neg e0];rfl
  by_cases e1:n=1
  ·subst e1;rfl
  by_cases e0:n=0
  ·subst e0;rfl
  rw [upd_ne e1,upd_ne e0,if_neg e1];rfl
 have hP: ∀ n,zq yH q n=none:=λn=>by
  unfold zq;have:(yH.ah n).pend=none:=by
   show (upd (upd fG.ah 0 (Cu 0)) 1 (Cu 1) n).pend=none
   unfold upd
   split
   ·rfl
   split<;>rfl
  rw [this];rfl
 have hI: ∀ n,(yH.ah n).inbox=[]:=λn=>by
  show (upd (upd fG.ah 0 (Cu 0)) 1 (Cu 1) n).inbox=[]
  unfold upd
  split
  ·rfl
  split<;>rfl
 have hL: ∀ l,¬ Mf yH q l:=λl h=>by
  rcases h.2 with h | ⟨j,_,h⟩
  ·cases h
  rw [hI j] at h;cases h
 have hoff:yH.off.at q=⟨q,1⟩:=by
  have h:q=0\/q=1:=by omega
  rcases h with rfl | rfl<;>rfl
 have hsh: ∀ n,zu yH q n=if n=q then (1,0) else (0,0):=λn=>by
  show gX (gX fG.shown 0 0 (1,0)) 1 1 (1,0) n q=_
  have h:q=0\/q=1:=by omega
  rcases h with rfl | rfl
  ·unfold gX;rw [if_neg (by omega)];by_cases e:n=0
   ·rw [if_pos ⟨e,rfl⟩,if_pos e]
   rw [if_neg (λh=>e h.1),if_neg e];rfl
  unfold gX;by_cases e:n=1
  ·rw [if_pos ⟨e,rfl⟩,if_pos e]
  rw [if_neg (λh=>e h.1),if_neg e,if_neg (by omega)];rfl
 have ho:(g0 q).o=q:=rfl;have hVo:vw yH q (g0 q).o=⟨1,1,0,0,0,[]⟩:=by rw [hV,ho,if_pos rfl]
 have hm:(g0 q).m=1:=rfl;refine ⟨⟨Nat.le_refl _,λ_ _ _=>by show q<5;omega,λk h1 h2=>by rw [hm] at h2;omega,⟨1,hoff,Nat.le_refl _,.inl rfl⟩,by rw [hVo];rfl,by rw [hVo];rfl,by rw [hVo];exact .inl rfl,λh=>by rw [hVo] at h;exact absurd rfl h,wY,λn hn hne=>?_,λk h1 h2=>?_,λk h1 h2=>by rw [hm] at h2;omega,λl hl=>absurd hl (hL l),λn _ p hp=>(by rw [hP] at hp;cases hp),.inl ⟨rfl,?_,Nat.zero_le _⟩,λ_=>rfl,λ_=>rfl,λn _ hne=>?_,?_,⟨λs hs=>(by cases hs),λi a b ha=>(by cases ha),λs hs=>(by cases hs),λ_=>rfl⟩⟩,Nat.zero_le _,λn hn=>?_⟩
 ·rw [ho] at hne;rw [hV,if_neg hne];exact .inl ⟨rfl,by show (0:Int)<=0;omega,by show (0:Int)<1;omega⟩
 ·rw [hm] at h2;have:k=1:=by omega
  subst this
  show (1:Int)<=(vw yH q q).ep
  rw [hV,if_pos rfl]
  decide
 ·rw [hsh,ho,if_pos rfl];rfl
 ·rw [ho] at hne;rw [hsh,if_neg hne]
  show (0:Int)<1
  omega
 ·show rp dV []=some (aH (List.take 0 [])).1
  rw [List.take_nil,Ao (l:=[]) (by simp) (show ig dV [] []=some (dV,[]) from rfl)];rfl
 have h1: ∀ q,(Ct q).length<=46:=λq=>by have:=En [fI 1 q 1 0 aP];simpa [Ct] using this
 show (upd (upd fG.ah 0 (Cu 0)) 1 (Cu 1) n).data.length<=_
 unfold upd
 split
 ·have:=h1 1;show (Ct 1).length<=_;omega
 split
 ·have:=h1 0;show (Ct 0).length<=_;omega
 show 0<=_;omega
theorem avo:Bs yH 2:=by
 rw [<-adF,<-UR];exact Jp (Jp alS (akZ (by omega) (by omega)) (by omega)) (akZ (by omega) (by omega)) (by omega)
theorem Bu {n q k p i b he hn:Int} (h1:0<=n/\n<3) (h2:0<=q/\q<2) (hk:(k=1/\0<=p/\p<2/\0<=i/\i<24/\0<=b/\b<1000/\he=0/\hn=0)\/(k=2/\p=0/\i=0/\b=0/\he=0/\hn=0)\/(k=3/\p=0/\i=0/\b=0/\0<=he/\he<3/\0<=hn/\hn<6)):dH ⟨2,n,q,0,0,k,p,i,b,he,hn⟩=0:=by
 rcases hk with ⟨rfl,h3,h4,h5,h6,h7,h8,rfl,rfl⟩ | ⟨rfl,rfl,rfl,rfl,rfl,rfl⟩ | ⟨rfl,rfl,rfl,rfl,h3,h4,h5,h6⟩
 all_goals
  simp [dH,bS,Nb,Ac.get,Ac.ints,fin,yQ,zeros];omega
theorem ajA {k a b c:Int} (n q:Int) (h1:0<=n/\n<3) (h2:0<=q/\q<2):dH ⟨2,n,q,0,0,if (mO k a b c).kind=4 then 2 else (mO k a b c).kind,(mO k a b c).producer,(mO k a b c).id,(mO k a b c).body,(mO k a b c).aO,(mO k a b c).hno⟩=0:=by
 have p1:=pF (n:=a) (m:=2) (by decide);have p2:=pF (n:=b) (m:=24) (by decide);have p3:=pF (n:=c) (m:=1000) (by decide);have p4:=pF (n:=a) (m:=3) (by decide);have p5:=pF (n:=b) (m:=6) (by decide);unfold mO
 split
 ·exact Bu h1 h2 (.inl ⟨rfl,p1.1,p1.2,p2.1,p2.2,p3.1,p3.2,rfl,rfl⟩)
 split
 ·exact Bu h1 h2 (.inr (.inl ⟨rfl,rfl,rfl,rfl,rfl,rfl⟩))
 split
 ·exact Bu h1 h2 (.inr (.inr ⟨rfl,rfl,rfl,rfl,p4.1,p4.2,p5.1,p5.2⟩))
 exact Bu h1 h2 (.inr (.inl ⟨rfl,rfl,rfl,rfl,rfl,rfl⟩))
theorem UU (g:Gr) (cr:Bool):dH (gG g cr)=0/\(gG g cr).kd≠1:=by
 have p1:=pF (n:=g.a) (m:=3) (by decide);have p2:=pF (n:=g.b) (m:=2) (by decide);have p3:=pF (n:=g.c) (m:=20) (by decide);have p4:=pF (n:=g.c) (m:=120) (by decide);unfold gG
 split
 ·exact ⟨ajA _ _ p1 p2,by unfold VP;dsimp only;omega⟩
 repeat' split
 all_goals
  refine ⟨?_,by dsimp only;omega⟩;simp [dH,bS,Nb,Ac.get,Ac.ints,fin,yQ,zeros]
  try omega
theorem afG: ∀ a∈mks,dH a=0:=by
 intro a ha;simp only [mks,List.mem_cons,List.not_mem_nil,or_false] at ha
 rcases ha with rfl | rfl<;>rfl
theorem wh (gs:List Gr) (m:Nat) (cr:Bool): ∀ a∈bF gs m cr,dH a=0:=by
 intro a ha
 rcases List.mem_append.1 ha with h | h
 ·exact afG a h
 obtain ⟨g,_,rfl⟩:=List.mem_map.1 h;exact (UU g cr).1
theorem Bv (gs:List Gr) (m:Nat) (cr:Bool):(bF gs m cr).length<=2+m:=by
 unfold bF mks;simp;omega
theorem take2 (gs:List Gr) (m:Nat) (cr:Bool) (i:Nat):fG.run ((bF gs m cr).take (i+2))=yH.run (((gs.take m).map (gG · cr)).take i):=by
 show Cl.run ((fG.act (abE 0 0)).act (abE 1 1)) (((gs.take m).map (gG · cr)).take i)=_
 rw [UR,adF]
theorem KT {gs:List Gr} {m:Nat} {cr:Bool} (hm:m<=500) {i j q:Nat} (hj:2<=j) (hi:j<=i) (hq:q<2): ∃ g g' k k',LW (fG.run ((bF gs m cr).take j)) q g k/\LW (fG.run ((bF gs m cr).take i)) q g' k'/\Later q g g' (fG.run ((bF gs m cr).take j)) (fG.run ((bF gs m cr).take i)):=by
 obtain ⟨j,rfl⟩: ∃ a,j=a+2:=⟨j-2,by omega⟩;obtain ⟨d,rfl⟩: ∃ d,i=j+d+2:=⟨i-j-2,by omega⟩;rw [take2,take2];have hok: ∀ a∈(gs.take m).map (gG · cr),Lf a/\a.kd≠1:=λa ha=>by
  obtain ⟨g,_,rfl⟩:=List.mem_map.1 ha;exact ⟨ab4 (UU g cr).1,(UU g cr).2⟩
 have hl:((gs.take m).map (gG · cr)).length<=500:=by rw [List.length_map,List.length_take];omega
 generalize (gs.take m).map (gG · cr)=l at hok hl⊢;obtain ⟨g1,h1,b1,_⟩:=O6 (by omega) (l.take j) (avn hq) avo (λa ha=>hok a (List.mem_of_mem_take ha)) (by rw [List.length_take];omega);obtain ⟨g2,h2,b2,r2⟩:=O6 (by omega) ((l.drop j).take d) h1 b1 (λa ha=>hok a (List.mem_of_mem_drop (List.mem_of_mem_take ha))) (by rw [List.length_take,List.length_take,List.length_drop];omega);have e:yH.run (l.take (j+d))=(yH.run (l.take j)).run ((l.drop j).take d):=by
  rw [List.take_add];exact List.foldl_append ..
 rw [e];exact ⟨g1,g2,_,_,h1,h2,r2⟩
theorem Xq {gs:List Gr} {m:Nat} {cr:Bool} {i:Nat} (hi:i<2) (n q:Nat):((fG.run ((bF gs m cr).take i)).ah n).view q=bG\/((fG.run ((bF gs m cr).take i)).ah n).view q=⟨1,1,0,0,0,[]⟩:=by
 match i,hi with
 | 0,_=>exact .inl rfl
 | 1,_=>
  rw [show fG.run ((bF gs m cr).take 1)=abF from UR];by_cases e:n=0
  ·subst e;by_cases e1:q=0
   ·subst e1;exact .inr rfl
   left
   show upd (λ_=>bG) 0 ⟨1,1,0,0,0,[]⟩ q=bG
   rw [upd_ne e1]
  left
  rw [show abF.ah n=nd0 from upd_ne e];rfl
section
variable {m:Cl} {q n k:Nat} {g:Gh}
theorem LW.ak1 (h:LW m q g k) (hn:n<5) (h3:((m.ah n).view q).role=3):((m.ah n).view q).ep<=g.m/\(((m.ah n).view q).ep=g.m->n=g.o):=by
 have I:=h.qi;by_cases e:n=g.o
 ·subst e;have:=I.zT;unfold vw at this;exact ⟨by omega,λ_=>rfl⟩
 have:=I.uN n hn e;unfold vw at this
 rcases this with ⟨h1,_⟩ | ⟨k,h1,h2,h4,h5,_⟩ | ⟨k,h1,_⟩<;>exact ⟨by omega,λ_=>by omega⟩
theorem LW.aV (h:LW m q g k) (hn:n<5) (hs:serves ((m.ah n).view q)):n=g.o/\((m.ah n).view q).ep=g.m:=by
 have I:=h.qi;have e:=Inv.who I hn hs;have:=I.zT;unfold vw at this;rw [<-e] at this;exact ⟨e,this⟩
end
theorem abG (gs:List Gr) {m:Nat} (hm:m<=500) (cr:Bool) (i:Nat): ∃ k,Bs (fG.run ((bF gs m cr).take i)) k:=by
 have:=Bv gs m cr;exact ⟨_,adp ((bF gs m cr).take i) alS (λa ha=>ab4 (wh gs m cr a (List.mem_of_mem_take ha))) (by rw [List.length_take];omega)⟩
theorem ajB (gs:List Gr) {m:Nat} (hm:m<=500) (cr:Bool) {i n q:Nat} (hn:n<5) (hq:q<4):au (((fG.run ((bF gs m cr).take i)).ah n).view q)=0:=by
 obtain ⟨k,B⟩:=abG gs hm cr i;have h:=B.kW n hn
 cases hu:((fG.run ((bF gs m cr).take i)).ah n).up with
 | true=>obtain ⟨rs,us,hU⟩:=h.Le hu;rw [gK hu];exact hU.nu q hq
 | false=>rw [show ((fG.run ((bF gs m cr).take i)).ah n).view=_ from if_neg (by rw [hu];decide)];exact h.LY.2.1 q hq
theorem O7 (gs:List Gr) {m:Nat} (hm:m<=500) (cr:Bool) {i n q:Nat} (hn:n<5) (hq:q<4):0<=(((fG.run ((bF gs m cr).take i)).ah n).view q).ep/\(((fG.run ((bF gs m cr).take i)).ah n).view q).ep<=1048576/\(((fG.run ((bF gs m cr).take i)).ah n).view q).evs.length<=2000:=by
 have h:=ajB gs hm cr (i:=i) hn hq;have h1:=fO h;have h2:=fU (dQ h).2;unfold bD at h1;exact ⟨by omega,by omega,h2⟩
end
section
open ChangeShapes WideShapes ChangeAt RowKit
theorem aCk:Tryz.prog.globalNamed "berthshift/cluster.unknown" =some 1:=by kernel_rfl
theorem afH:(Tryz.prog.globals[1]?).map (·.type)=some 32:=by kernel_rfl
theorem YI {W:World} {nm:String} {g:Nat} {d:DataW Unit} {r:List (String×DataW Unit)} (hn:Tryz.prog.globalNamed nm=some g) (ht:(Tryz.prog.globals[g]?).map (·.type)=some 32) (hdd:d= .agg [.lit (.int .i64 (-1)),.lit (.int .i64 0)]) (h:laidMet Tryz.prog ((nm,d)::r) W):
  W.cell? ⟨g,0,none⟩=some (.int .i64 (-1))/\W.cell? ⟨g,1,none⟩=some (.int .i64 0)/\g<W.heap.size:=by
 subst hdd;obtain ⟨ps,⟨g',t',cs,fuel,p,q,hg',ht',hvar,hd,_,_⟩,_⟩:=h;obtain rfl:=Option.some.inj (hn.symm.trans hg');obtain rfl:=Option.some.inj (ht.symm.trans ht');obtain ⟨y0,y1,n,e,hl,h0,h1⟩:=trod_struct2 Tryz.underlying32 hd;obtain ⟨m0,c0,rfl,_⟩:=DataW.trod_int Tryz.underlying3 h0;obtain ⟨m1,c1,rfl,_⟩:=DataW.trod_int Tryz.underlying3 h1;have e1:m0= -1/\m1=0:=by
  have:=congrArg Prod.fst e;simp at this;exact ⟨this.1.symm,this.2.symm⟩
 obtain ⟨rfl,rfl⟩:=e1;have hc1:Tryz.prog.cellsOf 3=1:=by kernel_rfl
 simp only [hc1] at c0 c1;have k0:cs[0]? =some (.int .i64 (-1)):=by
  have:=congrArg (·[0]?) c0;simpa [List.getElem?_take,List.getElem?_drop] using this
 have k1:cs[1]? =some (.int .i64 0):=by
  have:=congrArg (·[0]?) c1;simpa [List.getElem?_take,List.getElem?_drop] using this
 have a0:=(World.var?_cell hn hvar 0).trans k0;have a1:=(World.var?_cell hn hvar 1).trans k1;exact ⟨a0,a1,lt_of_cell a0⟩
theorem O8 {W:World} (h:laidMet Tryz.prog [("berthshift/directory.nowhere",Rows.laid_berthshift_directory_nowhere),("berthshift/cluster.unknown",Rows.laid_berthshift_cluster_unknown)] W):Uk W.heap.size W:=by
 obtain ⟨a,b,c⟩:=YI adR Pz rfl h;obtain ⟨a2,b2,c2⟩:=YI aCk afH rfl (laidMet.tail h);exact ⟨a2,b2,c2,a,b,c⟩
def asO:Obj->Obj
 | .cells _ t frozen=> .cells #[.int .i64 (-1),.int .i64 0] t frozen
 | o=>o
noncomputable def kY (os:Os):World:=
 { World.holding Tryz.prog os ⟨#[],#[],[]⟩ with heap:=((World.holding Tryz.prog os ⟨#[],#[],[]⟩).heap.modify 0 asO).modify 1 asO }
def oM:Char:=Char.ofNat 32
theorem Uc (b:List Char):wordsSigns (oM::b)=[]::wordsSigns b:=rfl
theorem yI: ∀ (a b:List Char),a.all (λc=> !(c==oM))=true->wordsSigns (a++oM::b)=a::wordsSigns b
 | [],b,_=>Uc b
 | c::a,b,h=>by
  simp only [List.all_cons,Bool.and_eq_true,Bool.not_eq_true',beq_eq_false_iff_ne] at h;have ih:=yI a b h.2;rw [List.cons_append,wordsSigns,ih];intro e;exact h.1 e
theorem Xr {l:List Char} (h1:l.take 8= "harness".toList++[oM]) (h2:((l.drop 8).take 64).all (λc=> !(c==oM))=true) (h3:(l.drop 72).take 5=[oM]++("cut".toList++[oM])):
  ∃ s rest,s=(l.drop 8).take 64/\wordsSigns l= "harness".toList::s:: "cut".toList::rest:=by
 refine ⟨_,wordsSigns (l.drop 77),rfl,?_⟩;generalize hs:(l.drop 8).take 64=s at h2;have e1:l= "harness".toList++oM::(s++oM::("cut".toList++oM::l.drop 77)):=by
  have a1:l.take 8++l.drop 8=l:=List.take_append_drop 8 l;have a2:(l.drop 8).take 64++(l.drop 8).drop 64=l.drop 8:=List.take_append_drop 64 _;have a3:(l.drop 72).take 5++(l.drop 72).drop 5=l.drop 72:=List.take_append_drop 5 _;rw [List.drop_drop] at a2 a3;rw [h3] at a3;rw [h1] at a1;rw [hs] at a2
  calc l=_:=a1.symm
   _=_:=by rw [<-a2,show 8+64=72 from rfl,<-a3];simp
 generalize l.drop 77=r at e1;rw [e1,yI _ _ (by decide),yI _ _ h2,yI _ _ (by decide)]
theorem Om (rest:List (List Char)):stripLifts liftWords ("cut".toList::rest)=([], "cut".toList::rest):=by
 unfold liftWords
 repeat (rw [stripLifts,if_neg (by decide)])
 rw [stripLifts]
section
variable {P:Program} {s:List Char} {rest:List (List Char)} (hw:wordsSigns P.initOrder.toList= "harness".toList::s:: "cut".toList::rest) (hs:isSumSigns s=true)
include hw hs
theorem yJ:behindMainWord (wordsSigns P.initOrder.toList)= "cut".toList::rest:=by
 rw [hw,behindMainWord,if_pos (by rw [hs];decide)]
theorem Qt (h1:P.laysLater=false) (h2:P.bearsReflect=false) (h3:P.doorFits []=true):P.mayEnter=true:=by
 unfold Program.mayEnter;rw [yJ hw hs];simp only;rw [Om];simp only [h1,h2];rw [h3];simp
theorem MF:P.headLifts=[]:=by
 unfold Program.headLifts;rw [yJ hw hs,Om];rfl
theorem Ll:P.liftsFinal=false:=by
 unfold Program.liftsFinal;rw [MF hw hs,yJ hw hs];simp only [List.head?_cons];rw [show (some "cut".toList==some "carried".toList)=false by decide]
 rfl
theorem afI:P.make=some .cut:=by
 unfold Program.make;rw [yJ hw hs];simp only;rw [if_neg (by decide),if_pos (by rw [show ("cut".toList== "cut".toList)=true by decide];rfl)]
end
theorem afJ {P:Program} {s t:List Char} {rest:List (List Char)} (hw:wordsSigns P.initOrder.toList= "harness".toList::s::rest) (hs:isSumSigns s=true) (e:s=t):P.mainIs=some (true,t):=by
 subst e;unfold Program.mainIs;rw [hw];simp [hs]
end
end Go.Proofs.YthhnonpehllibaaGreatDoor
