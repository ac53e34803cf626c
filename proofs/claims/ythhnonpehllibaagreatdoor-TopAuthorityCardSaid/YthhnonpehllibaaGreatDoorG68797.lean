import Derived.Stop.LaidErr
import Derived.Test.YthhnonpehllibaaGreatDoorG16137
import Derived.Test.YthhnonpehllibaaGreatDoorG9c241
import Derived.Test.YthhnonpehllibaaGreatDoorGa90fa
set_option maxRecDepth 100000
set_option maxHeartbeats 8000000
set_option linter.unusedSimpArgs false
namespace Go.Proofs.YthhnonpehllibaaGreatDoor
section
open ChangeShapes WideShapes RowKit
theorem Un {K:CK} {B n kn kw:Nat} {w0 w:World} {fs:List Fact} {m:Cl} {H:List LX} (hn:n<5) (hkn:K.nb n=kn) (bY:K.wb=kw) (hu:Uk B w0) (hB1:m.fly.length<=1000000000) (hB2:m.aU.length<=900000000000) (HW:Wd K B w0 w fs m H) (hT:CF (m.ah n).data (m.ah n).syn=some (vB (bI (m.ah n).data (m.ah n).syn))) (hvv: ∀ q,q<4->au (bI (m.ah n).data (m.ah n).syn q)=0) (hbz:(uD (jG (m.ah n).data (m.ah n).syn).1 (jG (m.ah n).data (m.ah n).syn).2.1).1.length*80<=reachBytes) (hmay: ∀ d,eH (jG (m.ah n).data (m.ah n).syn).2.1 (bI (m.ah n).data (m.ah n).syn) [0,1,2,3] (jG (m.ah n).data (m.ah n).syn).1=some d->cO d (jG (m.ah n).data (m.ah n).syn).2.1=true) (hsh: ∀ a b,0<=(m.shown a b).2):
    Calls tP 32 #[pV kw 0,pV kn 0] w (λe w'=>e= .returned (.tuple #[])/\Wd K B w0 w' fs (m.start n) H):=by
 obtain ⟨R,G,S0⟩:=HW.open hn;have hfl:R.fx.length=m.fly.length:=by rw [<-G.fly,List.length_map]
 have NG:=G.kY n hn;obtain ⟨X,hX⟩: ∃ X,m.ah n=X:=⟨_,rfl⟩;obtain ⟨z,hz⟩: ∃ z,R.nx n=z:=⟨_,rfl⟩;rw [hX,hz] at S0 NG;have hL: ∀ f∈R.L,f∈gq K R m fs n:=λf h=>List.mem_append_right _ (List.mem_append_right _ h);obtain ⟨rr,hrr⟩: ∃ r,gq K R m fs n=r:=⟨_,rfl⟩;rw [hrr] at S0 hL;have S:St B w0 w (cN kn n X z z.pv (cF kw R m rr)):=by subst hkn;subst bY;exact S0
 clear S0 HW;have hlen:=(S.own 1 rfl).1;rw [iG (sz:=6) (λ_=>rfl)] at hlen;have awu:z.pv.oneCell'=true:=aeS NG.tY;obtain ⟨P1,hP1⟩: ∃ r,jG X.data X.syn=r:=⟨_,rfl⟩;rw [hX] at hT hvv hbz hmay;have HRd:=λw h=>Hz z.tA z.tc X.data X.syn w h hT hbz;rw [hP1] at HRd hmay;refine gu 113 Tryz.func32 ?_;refine cw [0,1] ?_;refine zN 9 ?_
 cases hb1:(X.up)
 ·refine bC (l':=[(0,pV kw 0),(1,pV kn 0),(18,.bool false)]) ⟨rfl,rfl,rfl,trivial⟩ (lG rfl (qD (gT (aK (aC (vm ?_))))));refine zN 2 ?_;refine vv (aj rfl rfl (aA (cs:=[.slice z.tA X.data.length z.tc,iV X.syn]) Tryz.underlying83 rfl fD rfl (St.rg 0 S rfl (rP)))) ?_;refine dH anq (HRd _ (NG.xO.rd S (memT 7 rfl hL))) ?_;rintro _ w9 ⟨A2,c3,bB,bs,hbm,hbl,hbc,rfl,T8⟩;refine ⟨_,rfl,?_⟩;have oG:=S.ext T8 (by simp [Kg,Fact.H8]);have qw:St B w0 w9 ((oB bB bs)::(.cB 1 A2 P1.1.length (byteCells P1.1))::(cN kn n X z z.pv (cF kw R m (rr++fB bs)))):=St.perm oG (List.Perm.cons _ (List.Perm.cons _ (List.perm_append_comm (l₁:=fB bs))));clear S;refine zN 3 ?_;refine fF qw yY ?_;intro b12 DT kr;refine stA 0 kr fD ?_;intro Gl kN;refine zN 6 ?_;refine dH ap5 (MR _ 4 4 (bs.flatMap BX.cells) _ (St.ord 1 kN rfl) (ahQ _) (by decide)) ?_;rintro _ DL ⟨Mx,c18,rfl,awv,aww⟩;refine ⟨_,rfl,?_⟩;have iW:=kN.um awv aww;obtain ⟨wB,hWA⟩:=Em (iW.own 0 rfl) (by decide);subst hWA;refine zN 8 ?_;refine fF iW aqO ?_;intro zi Mw jA;refine stA 0 jA acF ?_ (h1:=by exact arD rfl rfl rfl awu);intro NA tQ;refine zN 6 ?_;refine jw (row':=dJ n X.up (.slice A2 P1.1.length c3) P1.2.1 (.slice (aD z.bb 0) 4 4) X.hints X.sure (.slice z.iA z.ix.length z.ic) (z.pv) X.turn) 0 tQ fD ?_;intro Yo sM;refine zN 11 ?_;have sP:=sM.aS [2];have kW:St B w0 Yo (_::_::_::_::_::_::_::_::_::_::((rr++fB bs)++[.cB 1 A2 P1.1.length (byteCells P1.1)])):=sP.toEnd 3 rfl;have mK:=kW.dW [9,9,9,9,9,9,9];refine dN (X:=Nat×(Option Addr)×Nat×(List UInt8)×(List BX)×(List Fact)) (λxv=>[(0,pV kw 0),(1,pV kn 0),(5,.slice (aD bB 0) 4 4),(6,.slice (aD wB 0) 4 c18),(7,pV zi 0),(34,.slice (aD bB 0) 4 4),(35,iV 4),(36,iV ((xv.1:Nat):Int))]) (λxv wr=>(xv.1<=4)/\(eH P1.2.1 (bI X.data X.syn) [0,1,2,3] P1.1=eH P1.2.1 (bI X.data X.syn) ((List.range 4).drop xv.1) xv.2.2.2.1)/\(xv.2.2.2.2.1.map BX.b=vB (λj=>if j<xv.1/\((bI X.data X.syn) j).role=1 then (fu ((bI X.data X.syn) j)).1 else (bI X.data X.syn) j))/\(∀ y∈xv.2.2.2.2.1,Bo (fB bs++xv.2.2.2.2.2) y)/\(Ro xv.2.2.2.2.2 1 xv.2.1 xv.2.2.2.1.length (byteCells xv.2.2.2.1))/\St B w0 wr (cN kn n X z z.pv (cF kw R m ((bN zi n X.up xv.2.1 xv.2.2.2.1 xv.2.2.1 P1.2.1 z.bb X.hints X.sure z.iA z.ix z.ic z.pv X.turn)::(.own 43 6 (.slice (aD wB 0) 4 c18) 4 ((xv.2.2.2.2.1).flatMap BX.cells))::(oB bB bs)::((rr++fB bs)++xv.2.2.2.2.2))))) (λxv=>4-xv.1) (0,A2,c3,P1.1,bs,[.cB 1 A2 P1.1.length (byteCells P1.1)]) ?_ ?_ ?_
  ·exact ⟨Nat.zero_le _,rfl,(by rw [hbm];exact anf),(λy hy=>(Ox hbc y hy).mono λf hf=>List.mem_append_left _ hf),(Ro.cB (List.mem_singleton.2 rfl)),mK⟩
  ·exact ⟨rfl,rfl,rfl,rfl,rfl,rfl,rfl,rfl,trivial⟩
  rintro ⟨k,A9,c9,d9,ws,N9⟩ Zy ⟨akR,Rp,VU,afW,Q8,qJ⟩
  try dsimp only at akR Rp VU afW Q8 qJ
  refine bC (l':=[(0,pV kw 0),(1,pV kn 0),(5,.slice (aD bB 0) 4 4),(6,.slice (aD wB 0) 4 c18),(7,pV zi 0),(34,.slice (aD bB 0) 4 4),(35,iV 4),(36,iV ((k:Nat):Int))]) ⟨rfl,rfl,rfl,rfl,rfl,rfl,rfl,rfl,trivial⟩ (aK (aC ?_));by_cases h40:((k:Nat):Int)<4
  ·refine zN 10 ?_;have hk4:k<4:=by omega
   obtain ⟨y,hy,YT⟩:=U5 hbm hk4;have sS:=Ox hbc y (List.mem_of_getElem? hy);obtain ⟨y0,hy0,_⟩:=U5 VU hk4;have Jk:ws.length=4:=by have:=congrArg List.length VU;simpa [vB] using this
   have hvk:=hvv k hk4;have hln:=jU (jq hvk);have yJ:y.b.evs.length*48<=reachBytes:=by rw [YT];unfold reachBytes;omega
   have LA:=xk hvk;refine zN 2 ?_;refine vv (jd k) ?_;refine vv (aj rfl rfl (aA (cs:=BX.cells y) Tryz.underlying43 rfl aB rfl (Rd.vQ (St.ord 9 qJ rfl) (λ_ _ h=>aZ (enc:=BX.cells) (sz:=6) (λ_=>rfl) hy h)))) ?_;refine fF qJ fE ?_;intro b41 UH qc;refine zQ ?_;refine stA 0 qc aB ?_;intro RQ oH;refine zN 7 ?_;by_cases h46:y.b.role=1
   ·refine zN 7 ?_;obtain ⟨BR,pY⟩: ∃ r,fu y.b=r:=⟨_,rfl⟩;have HP:=λw h=>Xf y.b.role y.b.ep y.b.fr y.b.tg y.b.rd y.A y.c y.b.evs w h yJ;rw [show fu ⟨y.b.role,y.b.ep,y.b.fr,y.b.tg,y.b.rd,y.b.evs⟩=BR from pY] at HP;refine zN 2 ?_;refine dH ap6 (HP _ (sS.1.rd oH (memT 11 rfl (λf hf=>List.mem_append_left _ (List.mem_append_right _ hf))))) ?_;rintro _ UL ⟨Mv,c48,arE,rfl,T52⟩;refine ⟨_,rfl,?_⟩;have uy:=oH.ext T52 rfl;refine zN 3 ?_;refine fF uy fE ?_;intro b53 ZU uS;refine stA 0 uS aB ?_;intro w56 pW;refine zN 7 ?_;refine cab Iu pW (jh 2 k y _) ?_;intro w58 Bj;refine fF Bj wX ?_;intro b61 Yt wE;refine stA 0 wE ko ?_;intro YK Di;refine zN 4 ?_;refine vv (v:= .agg #[iV 4,iV 0,iV 0,iV 0,iV 0,iV 0]) gF ?_;refine zQ ?_;refine jw (row':= #[iV 2,iV ((k:Nat):Int),iV y.b.ep,iV 0,iV 4,iV 0,iV 0,iV 0,iV 0,iV 0]) 0 Di iE ?_;intro UK uz;refine zN 4 ?_;by_cases hB:BR.2=0
    ·rcases afX:eO d9 P1.2.1 [fI 2 k y.b.ep 0 aP] with _ | awx
     ·refine zN 5 ?_;refine lN (V:=λb=> .slice (aD b 0) 1 1) (row:= #[iV 2,iV ((k:Nat):Int),iV y.b.ep,iV 0,iV 4,iV 0,iV 0,iV 0,iV 0,iV 0]) (t:=124) uz (wg rfl rfl rfl rfl) rfl rfl (aV (vs:=[(0,.agg #[iV 2,iV ((k:Nat):Int),iV y.b.ep,iV 0,iV 4,iV 0,iV 0,iV 0,iV 0,iV 0])]) rfl ⟨rfl,rfl,trivial⟩ (by kernel_rfl)) ?_;intro b70 w71 Fe;have tT:=Fe.dW [12];refine yg F8 (MS (rs:=[fI 2 k y.b.ep 0 aP]) afX (Ro.blk (List.mem_iff_getElem?.2 ⟨0,rfl⟩) rfl rfl) Q8 (by exact memT 14 rfl λf hf=>List.mem_append_right _ hf) (Nat.le_of_ble_eq_true rfl) tT) ?_;rintro _ w78 ⟨rfl,Bf⟩;refine ⟨_,rfl,?_⟩;refine zN 13 ?_;have zA:=Bf.aS [14,13,5,4,3,2,1,0];have sN:=(zA).Qx.Qx;have hr1:((bI X.data X.syn) k).role=1:=by rw [<-YT];omega
      have qI:m.start n=m:=SQ hX (by assumption) (by rw [hP1,Rp,mQ hk4];exact aeU hr1 (by rw [<-YT];exact afX));rw [qI];exact ⟨rfl,Wd.dM (X':=X) (z':=z) (Ls:=[]) (fA:=R.fA) (fc:=R.fc) (fx:=R.fx) (sA:=R.sA) (sc:=R.sc) (tA:=R.tA) (tc:=R.tc) hkn bY hrr G hn sN NG.more (λu hu=> .inl hu) (aI hX).symm G.fly.symm mI⟩
     refine zN 5 ?_;refine lN (V:=λb=> .slice (aD b 0) 1 1) (row:= #[iV 2,iV ((k:Nat):Int),iV y.b.ep,iV 0,iV 4,iV 0,iV 0,iV 0,iV 0,iV 0]) (t:=124) uz (wg rfl rfl rfl rfl) rfl rfl (aV (vs:=[(0,.agg #[iV 2,iV ((k:Nat):Int),iV y.b.ep,iV 0,iV 4,iV 0,iV 0,iV 0,iV 0,iV 0])]) rfl ⟨rfl,rfl,trivial⟩ (by kernel_rfl)) ?_;intro b82 w83 Fq;have Jy:=Fq.dW [12];refine yg F8 (MU (rs:=[fI 2 k y.b.ep 0 aP]) afX (Ro.blk (List.mem_iff_getElem?.2 ⟨0,rfl⟩) rfl rfl) Q8 (by exact memT 14 rfl λf hf=>List.mem_append_right _ hf) (Nat.le_of_ble_eq_true rfl) Jy) ?_;rintro _ w90 ⟨A86,c87,N88,rfl,arF,Mt⟩;refine ⟨_,rfl,?_⟩;refine zN 11 ?_;refine vv (jd k) ?_;refine lg (xs':=(ws.set k (⟨BR.1,Mv,c48⟩:BX)).flatMap BX.cells) 13 Mt (wn rfl) rfl rfl rfl rfl rfl rfl aB rfl (bX rfl) (by omega) (by rw [Nat.zero_add];exact qh (enc:=BX.cells) (sz:=6) (λ_=>rfl) (⟨BR.1,Mv,c48⟩:BX) _ _ (by omega)) ?_;intro w92 Db;have az0:(ws.set k (⟨BR.1,Mv,c48⟩:BX))[k]? =some (⟨BR.1,Mv,c48⟩:BX):=List.getElem?_set_self (by omega);refine zN 4 ?_;refine vv (v:=iV ((k+1:Nat):Int)) gD ?_;refine zN 2 ?_;have DV:=Db.aS [5,3,2,1];have zC:St B w0 w92 (_::_::_::_::_::_::_::_::_::_::((((rr++fB bs)++N9)++N88)++[.cB 6 Mv BR.1.evs.length ((BR.1.evs).flatMap Ev.cells)])):=DV.toEnd 1 rfl;have Dg:=zC.dW [7,7,7,7,7,7,7];have zY:=Dg;have hr1:((bI X.data X.syn) k).role=1:=by rw [<-YT];omega
     have hap:((((rr++fB bs)++N9)++N88)++[.cB 6 Mv BR.1.evs.length ((BR.1.evs).flatMap Ev.cells)])=((rr++fB bs)++(N9++(N88++[.cB 6 Mv BR.1.evs.length ((BR.1.evs).flatMap Ev.cells)]))):=by simp only [List.append_assoc]
     rw [hap] at zY;refine aN (k+1,A86,c87,awx,ws.set k (⟨BR.1,Mv,c48⟩:BX),N9++(N88++[.cB 6 Mv BR.1.evs.length ((BR.1.evs).flatMap Ev.cells)])) ?_ ⟨rfl,rfl,rfl,rfl,rfl,rfl,rfl,rfl,trivial⟩ (by first | omega | (dsimp only;omega));exact ⟨(by dsimp only;omega),(by dsimp only;rw [Rp,mQ hk4];exact aa6 hr1 (by rw [<-YT,pY];exact hB) (by rw [<-YT];exact afX)),(by dsimp only;rw [List.map_set,VU];exact aa4 hk4 hr1 (by rw [<-YT,pY])),(D7 (λu hu=>(afW u hu).mono (λf hf=>(List.mem_append.1 hf).elim (λh=>List.mem_append_left _ h) λh=>List.mem_append_right _ (List.mem_append_left _ h))) ⟨Ro.cB (List.mem_append_right _ (List.mem_append_right _ (List.mem_append_right _ (List.mem_singleton.2 rfl)))),arE⟩),(arF.mono (λf hf=>(List.mem_append.1 hf).elim (λh=>List.mem_append_left _ h) λh=>List.mem_append_right _ (List.mem_append_left _ h))),zY⟩
    refine zN 20 ?_;have UJ:=uz.aS [13,12,11,3,2,1,0];have rY:=(UJ).Qx.Qx;have hr1:((bI X.data X.syn) k).role=1:=by rw [<-YT];omega
    have qI:m.start n=m:=SQ hX (by assumption) (by rw [hP1,Rp,mQ hk4];exact aeT hr1 (by rw [<-YT,pY];exact hB));rw [qI];exact ⟨rfl,Wd.dM (X':=X) (z':=z) (Ls:=[]) (fA:=R.fA) (fc:=R.fc) (fx:=R.fx) (sA:=R.sA) (sc:=R.sc) (tA:=R.tA) (tc:=R.tc) hkn bY hrr G hn rY NG.more (λu hu=> .inl hu) (aI hX).symm G.fly.symm mI⟩
   refine zN 9 ?_;refine vv (v:=iV ((k+1:Nat):Int)) gD ?_;refine zN 2 ?_;have vY:=oH.aS [0];have tq:=vY;have hro: ¬ ((bI X.data X.syn) k).role=1:=by rw [<-YT];assumption
   refine aN (k+1,A9,c9,d9,ws,N9) ?_ ⟨rfl,rfl,rfl,rfl,rfl,rfl,rfl,rfl,trivial⟩ (by first | omega | (dsimp only;omega));exact ⟨(by dsimp only;omega),(by dsimp only;rw [Rp,mQ hk4];exact aa5 hro),(by dsimp only;rw [VU];exact aa3 hro),afW,Q8,tq⟩
  refine zN 15 ?_;refine jw (row':=dJ n true (.slice z.tA X.data.length z.tc) X.syn (.slice (aD z.bb 0) 4 4) X.hints X.sure (.slice z.iA z.ix.length z.ic) (z.pv) X.turn) 0 qJ Iq ?_;intro avX yD;refine zN 5 ?_;refine dH QV (mY yD hu) ?_;rintro _ aaj ⟨rfl,arG,yC⟩;refine ⟨_,rfl,?_⟩;have u7:=yC.aS [3,2,1];refine zN 6 ?_;refine vv (aj rfl rfl (aA (cs:=[.slice A9 d9.length c9,iV P1.2.1]) Tryz.underlying83 rfl fD rfl (St.rg 5 u7 rfl (rP)))) ?_;have hwA:eH P1.2.1 (bI X.data X.syn) [0,1,2,3] P1.1=some d9:=by rw [Rp,List.drop_eq_nil_of_le (by rw [List.length_range];omega)];rfl
  have FM:=λw h=>AB (oz A9 d9.length c9 d9 P1.2.1 w h);rw [xV (hmay _ hwA)] at FM;refine dH QW (FM _ (Q8.rd u7 (memT 8 rfl λf hf=>List.mem_append_right _ hf))) ?_;rintro _ aal ⟨Ol,Rm,rfl,awy⟩;refine ⟨_,rfl,?_⟩;have vX:=u7.ext awy rfl;refine zN 5 ?_;refine jw (row':=dJ n true (.slice Ol d9.length Rm) ((d9.length:Nat):Int) (.slice (aD arG 0) 4 4) (λ_=>nowhere) (λ_=>false) (.slice none 0 0) (.nilFunc) X.turn) 1 vX fD ?_;intro afD og;refine zN 8 ?_;refine jw (row':=dJ n true (.slice Ol d9.length Rm) ((d9.length:Nat):Int) (.slice (aD bB 0) 4 4) (λ_=>nowhere) (λ_=>false) (.slice none 0 0) (.nilFunc) X.turn) 1 og sJ ?_;intro ao5 zT;refine zN 10 ?_;have hwA:eH P1.2.1 (bI X.data X.syn) [0,1,2,3] P1.1=some d9:=by rw [Rp,List.drop_eq_nil_of_le (by rw [List.length_range];omega)];rfl
  have awz:k=4:=by omega
  have hsp:=VU;rw [awz] at hsp;have vW:=zT.aS [6];have qL:=vW.Cg 105 23;have oI:=(((((((((qL.bring 7 rfl).bring 2 rfl).bring 7 rfl).bring 7 rfl).bring 7 rfl).bring 7 rfl).bring 6 rfl).bring 8 rfl).bring 8 rfl);rw [show ((rr++fB bs)++N9)=(rr++(fB bs++N9)) from List.append_assoc ..] at oI;obtain ⟨m1,hm1⟩: ∃ k,k=m.put n { X.blank with up:=true,data:=d9,syn:=((d9.length:Nat):Int),bs:=(bI X.data X.syn) }:=⟨_,rfl⟩;have HW1:Wd K B w0 ao5 ((.own 43 6 (.slice (aD wB 0) 4 c18) 4 ((ws).flatMap BX.cells))::fs) m1 (hwl ws++H):=by
   rw [hm1];refine Wd.fin (m:=m) (fs:=(.own 43 6 (.slice (aD wB 0) 4 c18) 4 ((ws).flatMap BX.cells))::fs) (X':={ X.blank with up:=true,data:=d9,syn:=((d9.length:Nat):Int),bs:=(bI X.data X.syn) }) (z':={ bb:=bB,tA:=Ol,tc:=Rm,bx:=bs,iA:=none,ic:=0,ix:=[],pv:= .nilFunc }) (N:=fB bs++N9) (Ls:=[.cB 1 Ol d9.length (byteCells d9)]) (rr:=(.own 43 6 (.slice (aD wB 0) 4 c18) 4 ((ws).flatMap BX.cells))::rr) (H:=H) (fA:=R.fA) (fc:=R.fc) (fx:=R.fx) (sA:=R.sA) (sc:=R.sc) (tA:=R.tA) (tc:=R.tc) hkn bY (by rw [<-hrr];rfl) G hn oI ⟨hbm,λu hu=>(Ox hbc u hu).mono (λf hf=>awr hf),Ro.cB (rQ (List.mem_singleton.2 rfl)),rfl,λu hu=>by simp at hu,rfl⟩ (λu hu=> .inl hu) rfl G.fly.symm ?_;exact ail λy hy=>(afW y hy).mono λf hf=>awt hf
  have hwo:=aa7 hwA;have ao8:m1.ah n={ X.blank with up:=true,data:=d9,syn:=((d9.length:Nat):Int),bs:=(bI X.data X.syn) }:=by rw [hm1];exact bM _
  refine dN (X:=Nat×Cl) (λxv=>[(0,pV kw 0),(1,pV kn 0),(85,.slice (aD wB 0) 4 c18),(86,iV 4),(87,iV ((xv.1:Nat):Int))]) (λxv wr=>(Wd K B w0 wr ((.own 43 6 (.slice (aD wB 0) 4 c18) 4 ((ws).flatMap BX.cells))::fs) xv.2 (hwl ws++H))/\(Cl.woken n (bI X.data X.syn) [0,1,2,3] m1=Cl.woken n (bI X.data X.syn) ((List.range 4).drop xv.1) xv.2)/\(xv.1<=4)/\(xv.2.fly=m.fly)/\(∀ j,j<4->au ((xv.2.ah n).bs j)=0)/\(∀ j,xv.1<=j->j<4->(xv.2.ah n).bs j=(bI X.data X.syn) j)/\(∀ a b,0<=(xv.2.shown a b).2)/\(xv.2.aU.length<=m.aU.length+2001*xv.1)/\St B w0 wr [.own 43 6 (.slice (aD wB 0) 4 c18) 4 ((ws).flatMap BX.cells)]) (λxv=>4-xv.1) (0,m1) ?_ ?_ ?_
  ·exact ⟨HW1,rfl,Nat.zero_le _,by rw [hm1];rfl,λj hj=>by dsimp only;rw [ao8];exact hvv j hj,λj _ _=>by dsimp only;rw [ao8],λa b=>by dsimp only;rw [hm1];exact hsh a b,by dsimp only;rw [hm1];exact Nat.le_refl _,Wd.wP (gs:=[.own 43 6 (.slice (aD wB 0) 4 c18) 4 ((ws).flatMap BX.cells)]) HW1⟩
  ·exact ⟨rfl,rfl,rfl,rfl,rfl,trivial⟩
  rintro ⟨k2,mm⟩ aaq ⟨acd,VW,arH,VX,Mq,VY,VZ,arI,Cz⟩
  try dsimp only at acd VW arH VX Mq VY VZ arI Cz
  refine bC (l':=[(0,pV kw 0),(1,pV kn 0),(85,.slice (aD wB 0) 4 c18),(86,iV 4),(87,iV ((k2:Nat):Int))]) ⟨rfl,rfl,rfl,rfl,rfl,trivial⟩ ?_;obtain ⟨R3,G3,U7⟩:=acd.open hn;have SS:=G3.kY n hn;obtain ⟨X3,BF⟩: ∃ X,mm.ah n=X:=⟨_,rfl⟩;obtain ⟨z3,hz3⟩: ∃ z,R3.nx n=z:=⟨_,rfl⟩;rw [BF,hz3] at U7 SS;obtain ⟨YU,Jd⟩: ∃ r,gq K R3 mm fs n=r:=⟨_,rfl⟩;have az1:R3.fx.length=mm.fly.length:=by rw [<-G3.fly,List.length_map]
  have vk:St B w0 aaq (cN kn n X3 z3 z3.pv (cF kw R3 mm ((.own 43 6 (.slice (aD wB 0) 4 c18) 4 ((ws).flatMap BX.cells))::YU))):=by rw [<-Jd];subst hkn;subst bY;exact U7
  clear U7;have hlen3:=(vk.own 1 rfl).1;rw [iG (sz:=6) (λ_=>rfl)] at hlen3;rw [BF] at Mq VY;refine zN 2 ?_;by_cases awC:((k2:Nat):Int)<4
  ·refine zN 10 ?_;have hk4:k2<4:=by omega
   obtain ⟨x,hx,hxs⟩:=U5 hsp hk4;refine zN 2 ?_;refine vv (jd k2) ?_;refine vv (aj rfl rfl (aA (cs:=BX.cells x) Tryz.underlying43 rfl aB rfl (Rd.vQ (St.ord 7 vk rfl) (λ_ _ h=>aZ (enc:=BX.cells) (sz:=6) (λ_=>rfl) hx h)))) ?_;refine fF vk fE ?_;intro akS afE Cy;refine zQ ?_;refine sa 0 Cy aB ?_;intro aac Eu;refine zN 7 ?_;by_cases az2:x.b.role=1
   ·refine zN 11 ?_;have zM:=Eu.dW [7,7,7,7,7,7,7];have arJ:=Wd.dM (m:=mm) (m':=mm) (H:=hwl ws++H) (H':=hwl ws++H) (fs:=(.blk akS (bR x.b x.A x.c) 43)::(.own 43 6 (.slice (aD wB 0) 4 c18) 4 ((ws).flatMap BX.cells))::fs) (X':=X3) (z':=z3) (Ls:=[]) (fA:=R3.fA) (fc:=R3.fc) (fx:=R3.fx) (sA:=R3.sA) (sc:=R3.sc) (tA:=R3.tA) (tc:=R3.tc) (rr:=(.blk akS (bR x.b x.A x.c) 43)::(.own 43 6 (.slice (aD wB 0) 4 c18) 4 ((ws).flatMap BX.cells))::YU) hkn bY (by rw [<-Jd];rfl) G3 hn zM SS.more (λu hu=> .inl hu) (aI BF).symm G3.fly.symm mI;refine dH ap7 (JC hn hkn bY hu (by rw [VX];exact hB1) (by omega) hk4 arJ (by rw [BF];exact Mq) (VZ n k2)) ?_;rintro _ ao9 ⟨rfl,ajl⟩;refine ⟨_,rfl,?_⟩;have Nh:=FP mm n k2 (VZ);have hrs:=(FB (n:=n) (q:=k2) mm (by rw [BF];exact jU (jq (Mq k2 hk4)))).2;obtain ⟨mc,hmc⟩: ∃ k,k=mm.recover n k2:=⟨_,rfl⟩;rw [<-hmc] at ajl Nh hrs;obtain ⟨R5,G5,S05⟩:=ajl.open hn;have NG5:=G5.kY n hn;obtain ⟨X5,hX5⟩: ∃ X,mc.ah n=X:=⟨_,rfl⟩;obtain ⟨z5,hz5⟩: ∃ z,R5.nx n=z:=⟨_,rfl⟩;rw [hX5,hz5] at S05 NG5;obtain ⟨rr5,apa⟩: ∃ r,gq K R5 mc fs n=r:=⟨_,rfl⟩;have az3:R5.fx.length=mc.fly.length:=by rw [<-G5.fly,List.length_map]
    have Lj:St B w0 ao9 (cN kn n X5 z5 z5.pv (cF kw R5 mc ((.blk akS (bR x.b x.A x.c) 43)::(.own 43 6 (.slice (aD wB 0) 4 c18) 4 ((ws).flatMap BX.cells))::rr5))):=by rw [<-apa];subst hkn;subst bY;exact S05
    clear S05;have arK:=(Lj.own 1 rfl).1;rw [iG (sz:=6) (λ_=>rfl)] at arK;obtain ⟨y5,hy5,az4,az5⟩:=NG5.at_ hk4;refine zN 3 ?_;have V3:=Lj.drew;refine fq 8 6 V3 [] ?_;iterate 6 refine gM ?_
    refine dY (by kernel_rfl) rfl rfl rfl ?_;refine vv (jd k2) ?_;refine lg (xs':=(z5.bx.set k2 (⟨x.b,x.A,x.c⟩:BX)).flatMap BX.cells) 1 V3 (wn rfl) rfl rfl rfl rfl rfl rfl aB rfl (bX rfl) (by omega) (by rw [Nat.zero_add];exact qh (enc:=BX.cells) (sz:=6) (λ_=>rfl) (⟨x.b,x.A,x.c⟩:BX) _ _ (by omega)) ?_;intro awD IQ;have hy153:(z5.bx.set k2 (⟨x.b,x.A,x.c⟩:BX))[k2]? =some (⟨x.b,x.A,x.c⟩:BX):=List.getElem?_set_self (by omega);refine zQ ?_;refine iP ?_;refine zN 5 ?_;refine vv (v:= .agg #[iV 4,iV 0,iV 0,iV 0,iV 0,iV 0]) gF ?_;refine zQ ?_;refine dH Ie (mX hn hk4 hy153 aP eP (-1) IQ (by omega)) ?_;rintro _ awE ⟨rfl,awF,awG,ayT,arL,akT⟩;refine ⟨_,rfl,?_⟩;subst arL;have NU:=akT.aS [7];have hr1:((bI X.data X.syn) k2).role=1:=aeW hxs (by omega);have hxb:x.b=iy ((bI X.data X.syn) k2):=by rw [hxs,if_pos ⟨hk4,hr1⟩,(hwo k2 hk4 hr1).2]
    obtain ⟨md,hmd⟩: ∃ k,k=(mc.bn n k2 x.b).tell n k2 aP eP (-1):=⟨_,rfl⟩;have awH:md=((mm.recover n k2).bn n k2 (fu ((bI X.data X.syn) k2)).1).tell n k2 aP eP (-1):=by rw [hmd,hmc,hxb,(hwo k2 hk4 hr1).2]
    have abb:md={ mc.put n (X5.bn k2 x.b) with aU:=mc.aU++[⟨n,k2,x.b.ep,aP,eP,-1⟩],shown:=gX mc.shown n k2 (x.b.ep,(x.b.evs.length:Int)) }:=by rw [hmd];exact aa8 hX5
    have awI:md.fly=mm.fly:=by rw [abb];exact Nh.2.1
    have hnm:(mc.ah n)=X3:=by rw [Nh.1,BF]
    have apb:X5=X3:=by rw [<-hX5];exact hnm
    have apc:md.ah n=X5.bn k2 x.b:=by rw [abb];exact bM _
    have awJ: ∀ j,j<4->au ((md.ah n).bs j)=0:=λj hj=>by rw [apc];exact aik (by rw [apb];exact Mq) (by rw [hxb];exact (hwo k2 hk4 hr1).1) j hj
    have awK: ∀ j,k2+1<=j->j<4->(md.ah n).bs j=(bI X.data X.syn) j:=λj h1 h2=>by rw [apc,apb];exact (upd_ne (by omega)).trans (VY j (by omega) h2)
    have awL: ∀ a b,0<=(md.shown a b).2:=by rw [abb];exact Jc (a:=n) (q:=k2) (e:=x.b.ep) (l:=x.b.evs) Nh.2.2
    have az6:md.aU.length=mc.aU.length+1:=by rw [abb];exact List.length_append ..
    clear hmd;have ajm:Wd K B w0 awE ((.own 43 6 (.slice (aD wB 0) 4 c18) 4 ((ws).flatMap BX.cells))::fs) md (hwl ws++H):=by
     rw [abb];exact Wd.dM (m:=mc) (H:=hwl ws++H) (fs:=(.own 43 6 (.slice (aD wB 0) 4 c18) 4 ((ws).flatMap BX.cells))::fs) (X':=X5.bn k2 x.b) (z':={ z5 with bx:=z5.bx.set k2 (⟨x.b,x.A,x.c⟩:BX) }) (Ls:=[]) (fA:=R5.fA) (fc:=R5.fc) (fx:=R5.fx) (sA:=awF) (sc:=awG) (tA:=R5.tA) (tc:=R5.tc) (rr:=(.own 43 6 (.slice (aD wB 0) 4 c18) 4 ((ws).flatMap BX.cells))::rr5) hkn bY (by rw [<-apa];rfl) G5 hn NU (dP.ajk (Y:=x) NG5.more hk4 (ang G5.hld hx).more) (λu hu=> .inl hu) rfl G5.fly.symm mI
    refine zN 4 ?_;refine vv (v:=iV ((k2+1:Nat):Int)) gD ?_;refine zN 2 ?_;refine aN (k2+1,md) ?_ ⟨rfl,rfl,rfl,rfl,rfl,trivial⟩ (by first | omega | (dsimp only;omega));exact ⟨ajm,(by dsimp only;rw [VW,mQ hk4];exact XD hr1 awH),(by dsimp only;omega),(by dsimp only;rw [awI];exact VX),(by dsimp only;exact awJ),(by dsimp only;exact awK),(by dsimp only;exact awL),(by dsimp only;omega),(Wd.wP (gs:=[.own 43 6 (.slice (aD wB 0) 4 c18) 4 ((ws).flatMap BX.cells)]) ajm)⟩
   refine zN 9 ?_;refine vv (v:=iV ((k2+1:Nat):Int)) gD ?_;refine zN 2 ?_;have IU:=Eu.aS [0];have V4:=Wd.dM (m:=mm) (m':=mm) (H:=hwl ws++H) (H':=hwl ws++H) (fs:=(.own 43 6 (.slice (aD wB 0) 4 c18) 4 ((ws).flatMap BX.cells))::fs) (X':=X3) (z':=z3) (Ls:=[]) (fA:=R3.fA) (fc:=R3.fc) (fx:=R3.fx) (sA:=R3.sA) (sc:=R3.sc) (tA:=R3.tA) (tc:=R3.tc) (rr:=(.own 43 6 (.slice (aD wB 0) 4 c18) 4 ((ws).flatMap BX.cells))::YU) hkn bY (by rw [<-Jd];rfl) G3 hn IU SS.more (λu hu=> .inl hu) (aI BF).symm G3.fly.symm mI;have hro: ¬ ((bI X.data X.syn) k2).role=1:=aeV (hwo k2 hk4) hxs (by assumption);refine aN (k2+1,mm) ?_ ⟨rfl,rfl,rfl,rfl,rfl,trivial⟩ (by first | omega | (dsimp only;omega));exact ⟨V4,(by dsimp only;rw [VW,mQ hk4];exact XC hro),(by dsimp only;omega),VX,(by dsimp only;rw [BF];exact Mq),(by dsimp only;rw [BF];exact λj h1 h2=>VY j (by omega) h2),VZ,(by dsimp only;omega),(Wd.wP (gs:=[.own 43 6 (.slice (aD wB 0) 4 c18) 4 ((ws).flatMap BX.cells)]) V4)⟩
  refine zN 10 ?_;have qI:m.start n=mm:=by rw [aa9 hX (by assumption) (by rw [hP1];exact hwA),<-hm1,VW,List.drop_eq_nil_of_le (by rw [List.length_range];omega)];rfl
  rw [qI];exact ⟨rfl,aeY (Wd.less (gs:=[.own 43 6 (.slice (aD wB 0) 4 c18) 4 ((ws).flatMap BX.cells)]) acd)⟩
 refine bC (l':=[(0,pV kw 0),(1,pV kn 0),(18,.bool true)]) ⟨rfl,rfl,rfl,trivial⟩ (lF rfl (nP (gV (dO (rs:=[]) (vs:=[]) rfl trivial ?_))));have qI:m.start n=m:=aeX (by rw [hX];assumption);rw [qI];exact ⟨rfl,Wd.dM (X':=X) (z':=z) (Ls:=[]) (fA:=R.fA) (fc:=R.fc) (fx:=R.fx) (sA:=R.sA) (sc:=R.sc) (tA:=R.tA) (tc:=R.tc) hkn bY hrr G hn S NG.more (λu hu=> .inl hu) (aI hX).symm G.fly.symm mI⟩
section
variable {X:Nd} {m:Cl} {n k q:Nat} {p:fO}
theorem Gq.nC (h:Gq X): ∀ q,q<4->au (X.bs q)=0:=by
 rcases h with ⟨_,rs,us,h⟩ | ⟨_,rs,t,f,h⟩
 ·exact h.nC
 exact h.bz
theorem Gq.tp (h:Gq X): ∃ rs t f,X.data=bJ rs++t/\(firstM t).2=0/\iH rs f/\(∀ q,q<4->au (f q)=0)/\X.data.length<=100000/\0<=X.syn/\X.syn<=X.data.length:=by
 rcases h with ⟨_,rs,us,h⟩ | ⟨_,rs,t,f,h⟩
 ·have hd:=h.data;have hl:=congrArg List.length hd;rw [kX,List.length_append] at hl;have hs:=h.syn
  cases hp:X.pend with
  | none=>
   have hu:=h.YP hp;refine ⟨rs,[],_,by rw [hd,hu,List.append_nil,List.append_nil],xI,h.tape,λq hq=>(UY h.nC hq).1,h.len,by omega,by omega⟩
  | some p=>
   obtain ⟨h1,h2,h3⟩:=h.UW p hp;obtain ⟨h4,h5⟩:=oN h.tape h.nC h2 h3;rw [<-h1] at h4;refine ⟨rs++us,[],_,by rw [hd,List.append_nil],xI,h4,λq hq=>?_,h.len,by omega,by omega⟩;refine uI ?_;by_cases e:q=p.q
   ·rw [e,upd_same];exact h5
   rw [upd_ne e];exact h.nC q hq
 exact ⟨rs,t,f,h.data,h.aoy,h.tape,λq hq=>(h.nC q hq).1,h.len,h.syn.1,h.syn.2⟩
theorem Gq.may (h:Gq X):cO X.data X.syn=true:=by
 obtain ⟨rs,t,f,_,_,_,_,h1,h2,h3⟩:=h.tp;simp only [cO,Bool.and_eq_true,decide_eq_true_eq];exact ⟨⟨h1,h2⟩,h3⟩
theorem Gq.awM (h:Gq X) {rs:List dF} {d:List UInt8} (hw:eO X.data X.syn rs=some d):cO d X.syn=true:=by
 obtain ⟨_,_,_,_,_,_,_,h1,h2,h3⟩:=h.tp;obtain ⟨w1,_,w3⟩:=rT hw;have:=w3 h1;have hl:=congrArg List.length w1;rw [List.length_append] at hl;simp only [cO,Bool.and_eq_true,decide_eq_true_eq];omega
theorem Gq.fit (h:Gq X) (hp:X.pend=some p):p.fit/\cO X.data X.syn=true:=by
 refine ⟨?_,h.may⟩
 rcases h with ⟨_,rs,us,h⟩ | ⟨_,rs,t,f,h⟩
 ·obtain ⟨h1,h2,h3⟩:=h.UW p hp;obtain ⟨h4,h5⟩:=oN h.tape h.nC h2 h3
  cases p with
  | serve q evs op num a=>exact ⟨h3,jU h2.2.2.2⟩
  | begun q b=>exact h3
  | got q b last=>exact h3
  | iM q b at_=>exact ⟨h3,h5⟩
  | forget q b=>exact h3
 rw [h.tY] at hp;cases hp
theorem Pm {s:Int} {f:Nat->bK}: ∀ (ql:List Nat) {d d':List UInt8},eH s f ql d=some d'->d.length<=d'.length/\(d.length<=100000->d'.length<=100000)
 | [],d,d',h=>by cases h;exact ⟨Nat.le_refl _,id⟩
 | q::r,d,d',h=>by
  rw [eH] at h
  split at h
  ·exact Pm r h
  split at h
  ·cases h
  split at h
  ·cases h
  rename_i d2 hw
  obtain ⟨w1,_,w3⟩:=rT hw;obtain ⟨h1,h2⟩:=Pm r h;rw [w1,List.length_append] at h1;exact ⟨by omega,λh0=>h2 (w3 h0)⟩
theorem YV: ∀ (rs:List dF),6*rs.length<=(bJ rs).length
 | []=>by simp [bJ]
 | r::rs=>by
  have h1:=(zW r).1;have h2:=YV rs;have e:bJ (r::rs)=lJ r++bJ rs:=by simp [bJ,List.flatMap_cons]
  rw [e,List.length_append,List.length_cons];omega
theorem Gq.Mr (h:Gq X):CF X.data X.syn=some (vB (bI X.data X.syn))/\(∀ q,q<4->au (bI X.data X.syn q)=0)/\(uD (jG X.data X.syn).1 (jG X.data X.syn).2.1).1.length*80<=reachBytes/\
  (∀ d,eH (jG X.data X.syn).2.1 (bI X.data X.syn) [0,1,2,3] (jG X.data X.syn).1=some d->cO d (jG X.data X.syn).2.1=true):=by
 obtain ⟨rs,t,f,hd,ht,hT,hb,h1,h2,h3⟩:=h.tp;obtain ⟨r1,r2,r3⟩:=hT.read hd ht h1 h2 h3;have hl:(bJ rs).length<=X.data.length:=by rw [hd,List.length_append];omega
 have hg:=YV rs;refine ⟨by rw [r2,Af λq hq=>(r3 q hq).symm],λq hq=>by rw [r3 q hq];exact hb q hq,?_,λd hw=>?_⟩
 ·rw [r1];unfold uD;rw [if_pos (by simp [cO];omega)];have:=yu (t:=[]) hT.1 xI;rw [List.append_nil] at this;dsimp only;rw [this];unfold reachBytes;dsimp only;omega
 rw [r1] at hw⊢;obtain ⟨g1,g2⟩:=Pm _ hw;dsimp only at g1 g2 hw⊢;have g3:=g2 (by omega);simp only [cO,Bool.and_eq_true,decide_eq_true_eq];omega
theorem lX.tgt {l:iD} (h:lX l): ∃ j,j<5/\(l.tg= -1\/l.tg= -2\/l.tg=((j:Nat):Int)):=by
 obtain ⟨_,_,h1 | h1 | h1,_⟩:=h
 ·exact ⟨0,by omega,.inl h1⟩
 ·exact ⟨0,by omega,.inr (.inl h1.1)⟩
 exact ⟨l.tg.toNat,by omega,.inr (.inr (by omega))⟩
theorem fK.fl {T S D K:Nat} (h:fK m T S D K):m.fly.length<=T:=by
 have:=Oe m (n:=0) (by omega);have:=h.room;omega
theorem fK.il {T S D K:Nat} (h:fK m T S D K) (hn:n<5):(m.ah n).inbox.length<=T:=by
 have:=Oe m hn;have:=h.room;omega
theorem fK.fi {T S D K:Nat} (h:fK m T S D K) (hn:n<5):m.fly.length+(m.ah n).inbox.length<=T:=by
 have:=Oe m hn;have:=h.room;omega
end
def ShN (m:Cl):Prop:= ∀ a b,0<=(m.shown a b).2
section
variable {m m':Cl} {n q:Nat} {l:iD}
theorem ShN.of (h:ShN m) (e:m'.shown=m.shown):ShN m':=λa b=>by rw [e];exact h a b
theorem ShN.tell {e:Ev} {a:jc} {u:Int} (h:ShN m):ShN (m.tell n q e a u):=Jc h
theorem ShN.done {op:Ev} {u:Int} {a:jc} (h:ShN m):ShN (m.done n q op u a):=by
 unfold Cl.done
 split
 ·exact (h.tell (n:=n) (q:=q) (e:=op) (a:=a) (u:=u)).of rfl
 exact h.of rfl
theorem ShN.part {a:Int} (h:ShN m):ShN (m.part n q a):=by
 unfold Cl.part
 split
 ·exact h
 exact h.of rfl
theorem ShN.serve (h:ShN m):ShN (m.serve n l):=by
 unfold Cl.serve
 split
 ·exact h.done
 split
 ·exact h.done
 exact h.of rfl
theorem ShN.handle (h:ShN m):ShN (m.handle n l):=by
 unfold Cl.handle
 split
 ·exact h.serve
 split
 ·unfold Cl.offered
  split
  ·exact h
  split
  ·exact h.of rfl
  split
  ·exact h
  exact h.of rfl
 split
 ·unfold Cl.caught
  split
  ·exact h
  split
  ·exact h
  split
  ·exact ShN.part (h.of rfl)
  split
  ·exact h
  exact h.of rfl
 split
 ·unfold Cl.got
  split
  ·exact h
  split
  ·exact h.of rfl
  split
  ·exact h
  split
  ·exact h
  exact h.of rfl
 unfold Cl.learnt
 split
 ·exact h.of rfl
 split
 ·exact h.of rfl
 exact h.of rfl
theorem ShN.drain: ∀ (ls:List iD) {m:Cl},ShN m->ShN (Cl.drain n ls m)
 | [],m,h=>h
 | l::r,m,h=>by
  rw [Cl.drain];have h1:ShN ((m.put n { m.ah n with inbox:=r }).handle n l):=ShN.handle (h.of rfl)
  split
  ·exact ShN.drain r h1
  exact h1
theorem ShN.zF {p:fO} (h:ShN m):ShN (m.zF n p):=by
 cases p with
 | serve q evs op num a=>exact ShN.done (h.of rfl)
 | begun q b=>exact h.of rfl
 | got q b last=>
  unfold Cl.zF;dsimp only
  split
  ·exact ShN.tell (h.of rfl)
  exact h.of rfl
 | iM q b a=>exact ShN.part (h.of rfl)
 | forget q b=>exact h.of rfl
theorem ShN.step (h:ShN m):ShN (m.step n):=by
 unfold Cl.step
 split
 ·exact h
 split
 ·exact ShN.zF (h.of rfl)
 split
 ·exact (h.drain _).of rfl
 exact h.drain _
theorem ShN.come (h:ShN m):ShN (m.come l):=by
 unfold Cl.come
 split
 ·exact h.of rfl
 split
 ·split<;>exact h.of rfl
 split
 ·exact h.of rfl
 exact h
theorem ShN.comes: ∀ (ls:List iD) {m:Cl},ShN m->ShN (ls.foldl Cl.come m)
 | [],_,h=>h
 | _::ls,_,h=>ShN.comes ls h.come
theorem ShN.recover (h:ShN m):ShN (m.recover n q):=(FP m n q h).2.2
theorem ShN.woken {bs:Nat->bK}: ∀ (ql:List Nat) {m:Cl},ShN m->ShN (Cl.woken n bs ql m)
 | [],_,h=>h
 | q::r,m,h=>by
  rw [Cl.woken]
  split
  ·exact ShN.woken r h
  exact ShN.woken r (ShN.tell ((h.recover (n:=n) (q:=q)).of rfl))
theorem ShN.act {a:Ac} (h:ShN m):ShN (m.act a):=by
 unfold Cl.act
 split
 ·unfold Cl.make
  split
  ·exact h
  split
  ·exact h
  split
  ·exact h
  exact Jc (l:=[]) h
 split
 ·exact h.of rfl
 split
 ·exact h.step
 split
 ·unfold Cl.pick
  split
  ·exact h
  dsimp only
  split
  ·refine ShN.come ?_
   split
   ·exact h
   exact h.of rfl
  split
  ·exact h
  exact h.of rfl
 split
 ·exact ShN.comes _ (h.of rfl)
 split
 ·unfold Cl.crash
  split
  ·exact h.of rfl
  exact h
 split
 ·unfold Cl.start
  split
  ·exact h
  split
  ·exact h
  exact ShN.woken _ (h.of rfl)
 unfold Cl.move
 split
 ·exact h
 split
 ·exact h.of rfl
 exact h
end
section
variable {m:Cl} {n:Nat} {X:Nd} {l:iD} {PW:Pl×Int}
theorem aeZ (h:l.tg= -1):m.come l={ m with bL:=m.bL++[l.bL] }:=if_pos h
theorem rz (h:l.tg= -2) (hP:bq (eZ m.off l) l.q=PW) (h2:PW.2=0):m.come l={ m with off:=eZ m.off l,fly:=m.fly++[nU l.fr l.q PW.1] }:=by
 unfold Cl.come;rw [if_neg (by omega),if_pos h,hP,if_pos h2]
theorem rA (h:l.tg= -2) (hP:bq (eZ m.off l) l.q=PW) (h2: ¬ PW.2=0):m.come l={ m with off:=eZ m.off l }:=by
 unfold Cl.come;rw [if_neg (by omega),if_pos h,hP,if_neg h2]
theorem abd (h:l.tg=((n:Nat):Int)) (hX:m.ah n=X) (hu:X.up=true):m.come l=m.put n (X.box (X.inbox++[l])):=by
 subst hX;unfold Cl.come;rw [if_neg (by omega),if_neg (by omega),h,Int.toNat_natCast,if_pos hu];rfl
theorem abe (h:l.tg=((n:Nat):Int)) (hX:m.ah n=X) (hu:X.up=false):m.come l=m:=by
 subst hX;unfold Cl.come;rw [if_neg (by omega),if_neg (by omega),h,Int.toNat_natCast,if_neg (by rw [hu];simp)]
theorem dP.arM {K:CK} {L:List Fact} {c:Nat} {z:NX} {A:Option Addr} {x:LX} (h:dP K L n X z) (hx:Qv L x):dP K L n (X.box (X.inbox++[x.l])) { z with iA:=A,ic:=c,ix:=z.ix++[x] }:=
 ⟨h.Qw,h.Sy,h.xO,by rw [List.map_append,h.ixm];rfl,λu hu=>(List.mem_append.1 hu).elim (h.ixo u) λe=>by rw [List.mem_singleton] at e;subst e;exact hx,h.tY⟩
end
theorem Du {K:CK} {B n kn kw:Nat} {w0 w:World} {fs:List Fact} {m:Cl} {H:List LX} {x:LX} (hn:n<5) (hkn:K.nb n=kn) (bY:K.wb=kw) (hu:Uk B w0) (hB1:m.fly.length<=1000000000) (hB2:m.bL.length<=1000000000000) (hB3:(m.ah n).inbox.length<=1000000000) (HW:Wd K B w0 w fs m (x::H)) (qy:x.l.tg= -1\/x.l.tg= -2\/x.l.tg=((n:Nat):Int)):
    Calls Tryz.prog 30 #[.pointer (some ⟨kw,0,none⟩),.agg (LX.row x)] w (λe w'=>e= .returned (.tuple #[])/\Wd K B w0 w' fs (m.come x.l) H):=by
 obtain ⟨R,G,S0⟩:=HW.open hn;have hfl:R.fx.length=m.fly.length:=by rw [<-G.fly,List.length_map]
 have NG:=G.kY n hn;obtain ⟨X,hX⟩: ∃ X,m.ah n=X:=⟨_,rfl⟩;obtain ⟨z,hz⟩: ∃ z,R.nx n=z:=⟨_,rfl⟩;rw [hX,hz] at S0 NG;have hL: ∀ f∈R.L,f∈gq K R m fs n:=λf h=>List.mem_append_right _ (List.mem_append_right _ h);obtain ⟨rr,hrr⟩: ∃ r,gq K R m fs n=r:=⟨_,rfl⟩;rw [hrr] at S0 hL;have S:St B w0 w ((.blk kn (dJ n X.up (.slice z.tA X.data.length z.tc) X.syn (.slice (some ⟨z.bb,0,none⟩) 4 4) X.hints X.sure (.slice z.iA z.ix.length z.ic) (z.pv) X.turn) 87)::(.own 43 6 (.slice (some ⟨z.bb,0,none⟩) 4 4) 4 ((z.bx).flatMap BX.cells))::(fL z.iA z.ix z.ic)::(bW kw (.slice R.nA 5 R.nc) m.off R.fA R.fx R.fc m.shown R.sA m.aU R.sc R.tA m.bL R.tc m.calls)::(oL R.fA R.fx R.fc)::(oS R.sA m.aU R.sc)::(oT R.tA m.bL R.tc)::rr):=by subst hkn;subst bY;exact S0
 clear S0 HW;have hlen:=(S.own 1 rfl).1;rw [iG (sz:=6) (λ_=>rfl)] at hlen;obtain ⟨ab,ao,qA⟩:=Bw G.arr S (memT 7 rfl hL);have harr:=G.arr;rw [qA] at S harr;have az7:z.ix.length<=1000000000:=by have:=congrArg List.length NG.ixm;rw [List.length_map] at this;rw [hX] at hB3;omega
 refine gu 106 Tryz.func30 ?_;refine cw [0,1] ?_;refine zN 2 ?_;refine iK S ?_;intro b1 w2 S3;refine zN 4 ?_
 rcases qy with qy | qy | qy
 ·refine zN 8 ?_;have S4:=S3.drew;refine fq 14 10 S4 [7] ?_;iterate 5 refine gM ?_
  refine gk (v:= .slice R.tA m.bL.length R.tc) 5 rfl (St.del 7 S4) (λ_ awN=>(aj rfl rfl (ay Tryz.underlying38 rfl (St.cl 4 awN rfl aq5)))) ?_;refine gM ?_;refine gk (v:= .agg #[iV x.l.bL.num,iV x.l.bL.ans.code,iV x.l.bL.ans.eD,iV x.l.bL.ans.hno,iV x.l.bL.ans.body,iV x.l.bL.pl.node,iV x.l.bL.pl.epoch]) 7 rfl (St.del 7 S4) (λ_ akU=>(aj rfl rfl (aA (cs:=[iV x.l.bL.num,iV x.l.bL.ans.code,iV x.l.bL.ans.eD,iV x.l.bL.ans.hno,iV x.l.bL.ans.body,iV x.l.bL.pl.node,iV x.l.bL.pl.epoch]) Tryz.underlying103 rfl abP rfl (St.rg 0 akU rfl (amX))))) ?_;refine eU (m:=5) (r:=8) (by kernel_rfl) ?_;refine lQ (i:=8) rfl rfl (V:=λb=> .slice (some ⟨b,0,none⟩) 1 1) (row:= #[iV x.l.bL.num,iV x.l.bL.ans.code,iV x.l.bL.ans.eD,iV x.l.bL.ans.hno,iV x.l.bL.ans.body,iV x.l.bL.pl.node,iV x.l.bL.pl.epoch]) (t:=103) S4 (wn rfl) rfl rfl (aV (vs:=[(0,.agg #[iV x.l.bL.num,iV x.l.bL.ans.code,iV x.l.bL.ans.eD,iV x.l.bL.ans.hno,iV x.l.bL.ans.body,iV x.l.bL.pl.node,iV x.l.bL.pl.epoch])]) rfl ⟨rfl,rfl,trivial⟩ (by kernel_rfl)) ?_;intro b13 Jw gJ;refine gM ?_;refine eU (m:=4) (r:=9) (by kernel_rfl) ?_;refine kM (i:=9) rfl rfl (news:=[iV x.l.bL.num,iV x.l.bL.ans.code,iV x.l.bL.ans.eD,iV x.l.bL.ans.hno,iV x.l.bL.ans.body,iV x.l.bL.pl.node,iV x.l.bL.pl.epoch]) (xs':=(m.bL++[x.l.bL]).flatMap wM.cells) 8 gJ (wn rfl) rfl rfl rfl rfl rfl rfl (St.lY (xs:=[iV x.l.bL.num,iV x.l.bL.ans.code,iV x.l.bL.ans.eD,iV x.l.bL.ans.hno,iV x.l.bL.ans.body,iV x.l.bL.pl.node,iV x.l.bL.pl.epoch]) 0 gJ rfl rfl rfl) Tryz.underlying38 al8 rfl (by decide) (bX rfl) (by simp only [maxLen];omega) (by omega) (jO (enc:=wM.cells) rfl rfl) ?_;intro A16 c17 Nz auU auV l5;refine gM ?_;refine dY (by kernel_rfl) rfl rfl rfl ?_;refine zN 3 ?_;refine jw 5 l5 aiP ?_ (hs:=by exact aq7);intro w22 lV;refine zQ ?_;refine iP ?_;refine bT (l':=[]) trivial (iw (bg (rs:=[]) (vs:=[]) rfl trivial ?_));have jB:=lV.aS [1,0];rw [<-qA] at jB;have U8:m.bL.length+1=(m.bL++[x.l.bL]).length:=by simp
  rw [U8] at jB;rw [aeZ qy];exact ⟨rfl,Wd.dM (X':=X) (z':=z) (Ls:=[]) (fA:=R.fA) (fc:=R.fc) (fx:=R.fx) (sA:=R.sA) (sc:=R.sc) (tA:=A16) (tc:=c17) hkn bY hrr G hn jB NG.more (λu hu=> .inl hu) (aI hX).symm G.fly.symm mH⟩
 ·refine zN 22 ?_;by_cases uG:0<=x.l.nd
  ·refine zN 4 ?_;obtain ⟨FD,JD⟩: ∃ r,Ak m.off x.l.q x.l.ep x.l.nd=r:=⟨_,rfl⟩;have HF:=λw h=>WA m.off x.l.q x.l.ep x.l.nd w h;rw [JD] at HF;refine zQ ?_;have lU:=S3.drew;refine aF 17 lU [] ?_;refine aJ 3 ?_;refine ak (v:= .agg ((m.off.cells).toArray)) 3 rfl lU (λ_ aaz=>(aj rfl rfl (aA (cs:=(m.off.cells)) Tryz.underlying35 rfl oQ rfl (St.rg 4 aaz rfl (xM))))) ?_;refine aJ 6 ?_;refine gZ (n:=6) (r:=10) (s:=14) (by kernel_rfl) ?_ ?_
   ·refine iO 10 rfl aiR (HF _ (Uk.nw hu lU)) ?_;rintro _ Yy ⟨rfl,awO⟩;refine ⟨_,rfl,?_⟩;have sD:=lU.on awO;refine aJ 4 ?_;refine aW 14 ?_;refine kU 14 rfl sD aft ?_;intro b43 RQ oH;refine bZ ?_;refine aW 15 ?_;refine Zv 15 rfl 0 oH oQ ?_ (h1:=vK _);intro Yz zh;refine aJ 3 ?_;refine zN 4 ?_;by_cases h49:FD.2=0
    ·refine zN 9 ?_;refine jw 5 zh oQ ?_ (h1:=vK _) (hs:=by exact akg);intro UL uy;refine zN 2 ?_;obtain ⟨PW,vN⟩: ∃ r,bq FD.1 x.l.q=r:=⟨_,rfl⟩;have HQ:=λw h=>mU FD.1 x.l.q w h;rw [vN] at HQ;refine zQ ?_;have oq:=uy.drew;refine aF 13 oq [] ?_;refine aJ 3 ?_;refine ak (v:= .agg (((FD.1).cells).toArray)) 3 rfl oq (λ_ aay=>(aj rfl rfl (aA (cs:=((FD.1).cells)) Tryz.underlying35 rfl oQ rfl (St.rg 5 aay rfl (xM))))) ?_;refine aJ 2 ?_;refine gZ (n:=6) (r:=6) (s:=10) (by kernel_rfl) ?_ ?_
     ·refine iO 6 rfl yX (HQ _ (Uk.nw hu oq)) ?_;rintro _ w59 ⟨rfl,akV⟩;refine ⟨_,rfl,?_⟩;have Qf:=oq.on akV;refine aJ 4 ?_;refine aW 10 ?_;refine kU 10 rfl Qf En ?_;intro b65 UK uz;refine bZ ?_;refine aW 11 ?_;refine sn 11 rfl 0 uz iQ ?_;intro w68 vI;refine aJ 3 ?_;refine zN 4 ?_;by_cases h71:PW.2=0
      ·refine zN 14 ?_;refine vv (v:= .agg #[iV 6,iV (-2),iV x.l.fr,iV ((x.l.q:Nat):Int),iV PW.1.epoch,iV 0,iV PW.1.node,iV 0,iV 0,iV 0,iV 0,iV 0,iV 0,.slice none 0 0,.bool false,iV 0,iV 0,iV 0,iV 0,iV 0,iV 0,iV 0,iV 0]) gF ?_;have Fe:=vI.dW [7,7];refine dH yc (gP (x:=⟨nU x.l.fr x.l.q PW.1,none,0⟩) Fe (by omega)) ?_;rintro _ w77 ⟨rfl,A73,c74,awP,apd,Fv⟩;refine ⟨_,rfl,?_⟩;refine zQ ?_;refine bT (l':=[]) trivial (iw (bg (rs:=[]) (vs:=[]) rfl trivial ?_));have Bf:=Fv.aS [4,3,2];have zA:=Bf.dW [6,6,3,3,6,6,6];rw [<-qA] at zA;have kQ:eZ m.off x.l=FD.1:=by
        unfold eZ;rw [JD,if_pos (by omega)]
       rw [rz (PW:=PW) qy (by rw [kQ];exact vN) (by assumption),kQ];exact ⟨rfl,Wd.dM (X':=X) (z':=z) (Ls:=[]) (fA:=A73) (fc:=c74) (fx:=awP) (sA:=R.sA) (sc:=R.sc) (tA:=R.tA) (tc:=R.tc) hkn bY hrr G hn zA NG.more (by rw [apd];exact oh (iU rfl)) (aI hX).symm (by rw [apd,List.map_append,G.fly];rfl) mH⟩
      refine zN 7 ?_;have sN:=vI.aS [2,1,0];rw [<-qA] at sN;have kQ:eZ m.off x.l=FD.1:=by
       unfold eZ;rw [JD,if_pos (by omega)]
      rw [rA (PW:=PW) qy (by rw [kQ];exact vN) (by assumption),kQ];exact ⟨rfl,Wd.dM (X':=X) (z':=z) (Ls:=[]) (fA:=R.fA) (fc:=R.fc) (fx:=R.fx) (sA:=R.sA) (sc:=R.sc) (tA:=R.tA) (tc:=R.tc) hkn bY hrr G hn sN NG.more (λu hu=> .inl hu) (aI hX).symm G.fly.symm mH⟩
     refine kU 10 rfl oq En ?_;intro b82 w83 Fq;refine bZ ?_;refine aW 6 ?_;refine iO 6 rfl yX (HQ _ (Uk.nw hu Fq)) ?_;rintro _ w85 ⟨rfl,aoq⟩;refine ⟨_,rfl,?_⟩;have Bl:=Fq.on aoq;refine aJ 4 ?_;refine aW 11 ?_;refine sn 11 rfl 0 Bl iQ ?_;intro w91 ze;refine aJ 3 ?_;refine zN 4 ?_;by_cases h94:PW.2=0
     ·refine zN 14 ?_;refine vv (v:= .agg #[iV 6,iV (-2),iV x.l.fr,iV ((x.l.q:Nat):Int),iV PW.1.epoch,iV 0,iV PW.1.node,iV 0,iV 0,iV 0,iV 0,iV 0,iV 0,.slice none 0 0,.bool false,iV 0,iV 0,iV 0,iV 0,iV 0,iV 0,iV 0,iV 0]) gF ?_;have DV:=ze.dW [7,7];refine dH yc (gP (x:=⟨nU x.l.fr x.l.q PW.1,none,0⟩) DV (by omega)) ?_;rintro _ afI ⟨rfl,A96,c97,awQ,ape,vY⟩;refine ⟨_,rfl,?_⟩;refine zQ ?_;refine bT (l':=[]) trivial (iw (bg (rs:=[]) (vs:=[]) rfl trivial ?_));have tq:=vY.aS [4,3,2];have qK:=tq.dW [6,6,3,3,6,6,6];rw [<-qA] at qK;have kQ:eZ m.off x.l=FD.1:=by
       unfold eZ;rw [JD,if_pos (by omega)]
      rw [rz (PW:=PW) qy (by rw [kQ];exact vN) (by assumption),kQ];exact ⟨rfl,Wd.dM (X':=X) (z':=z) (Ls:=[]) (fA:=A96) (fc:=c97) (fx:=awQ) (sA:=R.sA) (sc:=R.sc) (tA:=R.tA) (tc:=R.tc) hkn bY hrr G hn qK NG.more (by rw [ape];exact oh (iU rfl)) (aI hX).symm (by rw [ape,List.map_append,G.fly];rfl) mH⟩
     refine zN 7 ?_;have yD:=ze.aS [2,1,0];rw [<-qA] at yD;have kQ:eZ m.off x.l=FD.1:=by
      unfold eZ;rw [JD,if_pos (by omega)]
     rw [rA (PW:=PW) qy (by rw [kQ];exact vN) (by assumption),kQ];exact ⟨rfl,Wd.dM (X':=X) (z':=z) (Ls:=[]) (fA:=R.fA) (fc:=R.fc) (fx:=R.fx) (sA:=R.sA) (sc:=R.sc) (tA:=R.tA) (tc:=R.tc) hkn bY hrr G hn yD NG.more (λu hu=> .inl hu) (aI hX).symm G.fly.symm mH⟩
    refine zN 6 ?_;obtain ⟨PW,vN⟩: ∃ r,bq m.off x.l.q=r:=⟨_,rfl⟩;have HQ:=λw h=>mU m.off x.l.q w h;rw [vN] at HQ;refine mF (X:=Nat) (λxv=>[(0,.pointer (some ⟨kw,0,none⟩)),(3,.pointer (some ⟨b1,0,none⟩)),(6,.pointer (some ⟨xv,0,none⟩)),(7,iV PW.2)]) (λxv wr=>St B w0 wr ((.blk xv #[iV PW.1.node,iV PW.1.epoch] 32)::(.blk b43 (((FD.1).cells).toArray) 35)::(.blk b1 (LX.row x) 105)::(.blk kn (dJ n X.up (.slice z.tA X.data.length z.tc) X.syn (.slice (some ⟨z.bb,0,none⟩) 4 4) X.hints X.sure (.slice z.iA z.ix.length z.ic) (z.pv) X.turn) 87)::(.own 43 6 (.slice (some ⟨z.bb,0,none⟩) 4 4) 4 ((z.bx).flatMap BX.cells))::(fL z.iA z.ix z.ic)::(bW kw (.slice (some ⟨ab,ao,none⟩) 5 R.nc) m.off R.fA R.fx R.fc m.shown R.sA m.aU R.sc R.tA m.bL R.tc m.calls)::(oL R.fA R.fx R.fc)::(oS R.sA m.aU R.sc)::(oT R.tA m.bL R.tc)::rr)) ?_ ?_
    ·have rZ:=zh.drew;refine aF 13 rZ [] ?_;refine aJ 3 ?_;refine ak (v:= .agg ((m.off.cells).toArray)) 3 rfl rZ (λ_ arN=>(aj rfl rfl (aA (cs:=(m.off.cells)) Tryz.underlying35 rfl oQ rfl (St.rg 5 arN rfl (xM))))) ?_;refine aJ 2 ?_;refine gZ (n:=6) (r:=6) (s:=10) (by kernel_rfl) ?_ ?_
     ·refine iO 6 rfl yX (HQ _ (Uk.nw hu rZ)) ?_;rintro _ Z9 ⟨rfl,arO⟩;refine ⟨_,rfl,?_⟩;have nu:=rZ.on arO;refine aJ 4 ?_;refine aW 10 ?_;refine kU 10 rfl nu En ?_;intro awR aj0 oI;refine bZ ?_;refine aW 11 ?_;refine sn 11 rfl 0 oI iQ ?_;intro aaq Cz;refine aJ 3 ?_;refine dG awR ?_ ⟨rfl,rfl,rfl,rfl,trivial⟩;exact Cz
     refine kU 10 rfl rZ En ?_;intro awS akb xK;refine bZ ?_;refine aW 6 ?_;refine iO 6 rfl yX (HQ _ (Uk.nw hu xK)) ?_;rintro _ ZC ⟨rfl,ab8⟩;refine ⟨_,rfl,?_⟩;have yh:=xK.on ab8;refine aJ 4 ?_;refine aW 11 ?_;refine sn 11 rfl 0 yh iQ ?_;intro Vw uF;refine aJ 3 ?_;refine dG awS ?_ ⟨rfl,rfl,rfl,rfl,trivial⟩;exact uF
    rintro awT anG Ep
    try dsimp only at Ep
    refine bC (l':=[(0,.pointer (some ⟨kw,0,none⟩)),(3,.pointer (some ⟨b1,0,none⟩)),(6,.pointer (some ⟨awT,0,none⟩)),(7,iV PW.2)]) ⟨rfl,rfl,rfl,rfl,trivial⟩ (aK (aC (vm ?_)));by_cases az8:PW.2=0
    ·refine zN 14 ?_;refine vv (v:= .agg #[iV 6,iV (-2),iV x.l.fr,iV ((x.l.q:Nat):Int),iV PW.1.epoch,iV 0,iV PW.1.node,iV 0,iV 0,iV 0,iV 0,iV 0,iV 0,.slice none 0 0,.bool false,iV 0,iV 0,iV 0,iV 0,iV 0,iV 0,iV 0,iV 0]) gF ?_;have yt:=Ep.dW [7,7];refine dH yc (gP (x:=⟨nU x.l.fr x.l.q PW.1,none,0⟩) yt (by omega)) ?_;rintro _ aug ⟨rfl,afB,afC,arP,ajn,QZ⟩;refine ⟨_,rfl,?_⟩;refine zQ ?_;refine bT (l':=[]) trivial (iw (bg (rs:=[]) (vs:=[]) rfl trivial ?_));have Q0:=QZ.aS [4,3,2];have Cv:=Q0.dW [6,6,3,3,6,6,6];rw [<-qA] at Cv;have kQ:eZ m.off x.l=m.off:=by
      unfold eZ
      first | rw [JD,if_neg (by omega)] | rw [if_neg (by omega)]
     rw [rz (PW:=PW) qy (by rw [kQ];exact vN) (by assumption),kQ];exact ⟨rfl,Wd.dM (X':=X) (z':=z) (Ls:=[]) (fA:=afB) (fc:=afC) (fx:=arP) (sA:=R.sA) (sc:=R.sc) (tA:=R.tA) (tc:=R.tc) hkn bY hrr G hn Cv NG.more (by rw [ajn];exact oh (iU rfl)) (aI hX).symm (by rw [ajn,List.map_append,G.fly];rfl) mH⟩
    refine zN 7 ?_;have zO:=Ep.aS [2,1,0];rw [<-qA] at zO;have kQ:eZ m.off x.l=m.off:=by
     unfold eZ
     first | rw [JD,if_neg (by omega)] | rw [if_neg (by omega)]
    rw [rA (PW:=PW) qy (by rw [kQ];exact vN) (by assumption),kQ];exact ⟨rfl,Wd.dM (X':=X) (z':=z) (Ls:=[]) (fA:=R.fA) (fc:=R.fc) (fx:=R.fx) (sA:=R.sA) (sc:=R.sc) (tA:=R.tA) (tc:=R.tc) hkn bY hrr G hn zO NG.more (λu hu=> .inl hu) (aI hX).symm G.fly.symm mH⟩
   refine kU 14 rfl lU aft ?_;intro apf awD IQ;refine bZ ?_;refine aW 10 ?_;refine iO 10 rfl aiR (HF _ (Uk.nw hu IQ)) ?_;rintro _ aoH ⟨rfl,arQ⟩;refine ⟨_,rfl,?_⟩;have vC:=IQ.on arQ;refine aJ 4 ?_;refine aW 15 ?_;refine Zv 15 rfl 0 vC oQ ?_ (h1:=vK _);intro anX NU;refine aJ 3 ?_;refine zN 4 ?_;by_cases az9:FD.2=0
   ·refine zN 9 ?_;refine jw 5 NU oQ ?_ (h1:=vK _) (hs:=by exact akg);intro aAa VH;refine zN 2 ?_;obtain ⟨PW,vN⟩: ∃ r,bq FD.1 x.l.q=r:=⟨_,rfl⟩;have HQ:=λw h=>mU FD.1 x.l.q w h;rw [vN] at HQ;refine mF (X:=Nat) (λxv=>[(0,.pointer (some ⟨kw,0,none⟩)),(3,.pointer (some ⟨b1,0,none⟩)),(6,.pointer (some ⟨xv,0,none⟩)),(7,iV PW.2)]) (λxv wr=>St B w0 wr ((.blk xv #[iV PW.1.node,iV PW.1.epoch] 32)::(.blk apf (((FD.1).cells).toArray) 35)::(.blk b1 (LX.row x) 105)::(.blk kn (dJ n X.up (.slice z.tA X.data.length z.tc) X.syn (.slice (some ⟨z.bb,0,none⟩) 4 4) X.hints X.sure (.slice z.iA z.ix.length z.ic) (z.pv) X.turn) 87)::(.own 43 6 (.slice (some ⟨z.bb,0,none⟩) 4 4) 4 ((z.bx).flatMap BX.cells))::(fL z.iA z.ix z.ic)::(bW kw (.slice (some ⟨ab,ao,none⟩) 5 R.nc) FD.1 R.fA R.fx R.fc m.shown R.sA m.aU R.sc R.tA m.bL R.tc m.calls)::(oL R.fA R.fx R.fc)::(oS R.sA m.aU R.sc)::(oT R.tA m.bL R.tc)::rr)) ?_ ?_
    ·have yA:=VH.drew;refine aF 13 yA [] ?_;refine aJ 3 ?_;refine ak (v:= .agg (((FD.1).cells).toArray)) 3 rfl yA (λ_ arR=>(aj rfl rfl (aA (cs:=((FD.1).cells)) Tryz.underlying35 rfl oQ rfl (St.rg 5 arR rfl (xM))))) ?_;refine aJ 2 ?_;refine gZ (n:=6) (r:=6) (s:=10) (by kernel_rfl) ?_ ?_
     ·refine iO 6 rfl yX (HQ _ (Uk.nw hu yA)) ?_;rintro _ aks ⟨rfl,arS⟩;refine ⟨_,rfl,?_⟩;have VI:=yA.on arS;refine aJ 4 ?_;refine aW 10 ?_;refine kU 10 rfl VI En ?_;intro aaS avz NV;refine bZ ?_;refine aW 11 ?_;refine sn 11 rfl 0 NV iQ ?_;intro aAb awU;refine aJ 3 ?_;refine dG aaS ?_ ⟨rfl,rfl,rfl,rfl,trivial⟩;exact awU
     refine kU 10 rfl yA En ?_;intro awV aAc apg;refine bZ ?_;refine aW 6 ?_;refine iO 6 rfl yX (HQ _ (Uk.nw hu apg)) ?_;rintro _ aAd ⟨rfl,arT⟩;refine ⟨_,rfl,?_⟩;have akM:=apg.on arT;refine aJ 4 ?_;refine aW 11 ?_;refine sn 11 rfl 0 akM iQ ?_;intro avC Rn;refine aJ 3 ?_;refine dG awV ?_ ⟨rfl,rfl,rfl,rfl,trivial⟩;exact Rn
    rintro awW aAe abf
    try dsimp only at abf
    refine bC (l':=[(0,.pointer (some ⟨kw,0,none⟩)),(3,.pointer (some ⟨b1,0,none⟩)),(6,.pointer (some ⟨awW,0,none⟩)),(7,iV PW.2)]) ⟨rfl,rfl,rfl,rfl,trivial⟩ (aK (aC (vm ?_)));by_cases aAf:PW.2=0
    ·refine zN 14 ?_;refine vv (v:= .agg #[iV 6,iV (-2),iV x.l.fr,iV ((x.l.q:Nat):Int),iV PW.1.epoch,iV 0,iV PW.1.node,iV 0,iV 0,iV 0,iV 0,iV 0,iV 0,.slice none 0 0,.bool false,iV 0,iV 0,iV 0,iV 0,iV 0,iV 0,iV 0,iV 0]) gF ?_;have awX:=abf.dW [7,7];refine dH yc (gP (x:=⟨nU x.l.fr x.l.q PW.1,none,0⟩) awX (by omega)) ?_;rintro _ aAg ⟨rfl,awY,awZ,arU,ajo,aw0⟩;refine ⟨_,rfl,?_⟩;refine zQ ?_;refine bT (l':=[]) trivial (iw (bg (rs:=[]) (vs:=[]) rfl trivial ?_));have afY:=aw0.aS [4,3,2];have aph:=afY.dW [6,6,3,3,6,6,6];rw [<-qA] at aph;have kQ:eZ m.off x.l=FD.1:=by
      unfold eZ;rw [JD,if_pos (by omega)]
     rw [rz (PW:=PW) qy (by rw [kQ];exact vN) (by assumption),kQ];exact ⟨rfl,Wd.dM (X':=X) (z':=z) (Ls:=[]) (fA:=awY) (fc:=awZ) (fx:=arU) (sA:=R.sA) (sc:=R.sc) (tA:=R.tA) (tc:=R.tc) hkn bY hrr G hn aph NG.more (by rw [ajo];exact oh (iU rfl)) (aI hX).symm (by rw [ajo,List.map_append,G.fly];rfl) mH⟩
    refine zN 7 ?_;have apj:=abf.aS [2,1,0];rw [<-qA] at apj;have kQ:eZ m.off x.l=FD.1:=by
     unfold eZ;rw [JD,if_pos (by omega)]
    rw [rA (PW:=PW) qy (by rw [kQ];exact vN) (by assumption),kQ];exact ⟨rfl,Wd.dM (X':=X) (z':=z) (Ls:=[]) (fA:=R.fA) (fc:=R.fc) (fx:=R.fx) (sA:=R.sA) (sc:=R.sc) (tA:=R.tA) (tc:=R.tc) hkn bY hrr G hn apj NG.more (λu hu=> .inl hu) (aI hX).symm G.fly.symm mH⟩
   refine zN 6 ?_;obtain ⟨PW,vN⟩: ∃ r,bq m.off x.l.q=r:=⟨_,rfl⟩;have HQ:=λw h=>mU m.off x.l.q w h;rw [vN] at HQ;refine mF (X:=Nat) (λxv=>[(0,.pointer (some ⟨kw,0,none⟩)),(3,.pointer (some ⟨b1,0,none⟩)),(6,.pointer (some ⟨xv,0,none⟩)),(7,iV PW.2)]) (λxv wr=>St B w0 wr ((.blk xv #[iV PW.1.node,iV PW.1.epoch] 32)::(.blk apf (((FD.1).cells).toArray) 35)::(.blk b1 (LX.row x) 105)::(.blk kn (dJ n X.up (.slice z.tA X.data.length z.tc) X.syn (.slice (some ⟨z.bb,0,none⟩) 4 4) X.hints X.sure (.slice z.iA z.ix.length z.ic) (z.pv) X.turn) 87)::(.own 43 6 (.slice (some ⟨z.bb,0,none⟩) 4 4) 4 ((z.bx).flatMap BX.cells))::(fL z.iA z.ix z.ic)::(bW kw (.slice (some ⟨ab,ao,none⟩) 5 R.nc) m.off R.fA R.fx R.fc m.shown R.sA m.aU R.sc R.tA m.bL R.tc m.calls)::(oL R.fA R.fx R.fc)::(oS R.sA m.aU R.sc)::(oT R.tA m.bL R.tc)::rr)) ?_ ?_
   ·have abg:=NU.drew;refine aF 13 abg [] ?_;refine aJ 3 ?_;refine ak (v:= .agg ((m.off.cells).toArray)) 3 rfl abg (λ_ arV=>(aj rfl rfl (aA (cs:=(m.off.cells)) Tryz.underlying35 rfl oQ rfl (St.rg 5 arV rfl (xM))))) ?_;refine aJ 2 ?_;refine gZ (n:=6) (r:=6) (s:=10) (by kernel_rfl) ?_ ?_
    ·refine iO 6 rfl yX (HQ _ (Uk.nw hu abg)) ?_;rintro _ aAh ⟨rfl,arW⟩;refine ⟨_,rfl,?_⟩;have aw1:=abg.on arW;refine aJ 4 ?_;refine aW 10 ?_;refine kU 10 rfl aw1 En ?_;intro aw2 aAi akW;refine bZ ?_;refine aW 11 ?_;refine sn 11 rfl 0 akW iQ ?_;intro aAj abh;refine aJ 3 ?_;refine dG aw2 ?_ ⟨rfl,rfl,rfl,rfl,trivial⟩;exact abh
    refine kU 10 rfl abg En ?_;intro aw3 aAk apk;refine bZ ?_;refine aW 6 ?_;refine iO 6 rfl yX (HQ _ (Uk.nw hu apk)) ?_;rintro _ aAl ⟨rfl,arX⟩;refine ⟨_,rfl,?_⟩;have aw4:=apk.on arX;refine aJ 4 ?_;refine aW 11 ?_;refine sn 11 rfl 0 aw4 iQ ?_;intro aAm akX;refine aJ 3 ?_;refine dG aw3 ?_ ⟨rfl,rfl,rfl,rfl,trivial⟩;exact akX
   rintro aw5 aAn akY
   try dsimp only at akY
   refine bC (l':=[(0,.pointer (some ⟨kw,0,none⟩)),(3,.pointer (some ⟨b1,0,none⟩)),(6,.pointer (some ⟨aw5,0,none⟩)),(7,iV PW.2)]) ⟨rfl,rfl,rfl,rfl,trivial⟩ (aK (aC (vm ?_)));by_cases aAo:PW.2=0
   ·refine zN 14 ?_;refine vv (v:= .agg #[iV 6,iV (-2),iV x.l.fr,iV ((x.l.q:Nat):Int),iV PW.1.epoch,iV 0,iV PW.1.node,iV 0,iV 0,iV 0,iV 0,iV 0,iV 0,.slice none 0 0,.bool false,iV 0,iV 0,iV 0,iV 0,iV 0,iV 0,iV 0,iV 0]) gF ?_;have aw6:=akY.dW [7,7];refine dH yc (gP (x:=⟨nU x.l.fr x.l.q PW.1,none,0⟩) aw6 (by omega)) ?_;rintro _ aAp ⟨rfl,aw7,aw8,arY,ajp,afZ⟩;refine ⟨_,rfl,?_⟩;refine zQ ?_;refine bT (l':=[]) trivial (iw (bg (rs:=[]) (vs:=[]) rfl trivial ?_));have aw9:=afZ.aS [4,3,2];have apl:=aw9.dW [6,6,3,3,6,6,6];rw [<-qA] at apl;have kQ:eZ m.off x.l=m.off:=by
     unfold eZ
     first | rw [JD,if_neg (by omega)] | rw [if_neg (by omega)]
    rw [rz (PW:=PW) qy (by rw [kQ];exact vN) (by assumption),kQ];exact ⟨rfl,Wd.dM (X':=X) (z':=z) (Ls:=[]) (fA:=aw7) (fc:=aw8) (fx:=arY) (sA:=R.sA) (sc:=R.sc) (tA:=R.tA) (tc:=R.tc) hkn bY hrr G hn apl NG.more (by rw [ajp];exact oh (iU rfl)) (aI hX).symm (by rw [ajp,List.map_append,G.fly];rfl) mH⟩
   refine zN 7 ?_;have apm:=akY.aS [2,1,0];rw [<-qA] at apm;have kQ:eZ m.off x.l=m.off:=by
    unfold eZ
    first | rw [JD,if_neg (by omega)] | rw [if_neg (by omega)]
   rw [rA (PW:=PW) qy (by rw [kQ];exact vN) (by assumption),kQ];exact ⟨rfl,Wd.dM (X':=X) (z':=z) (Ls:=[]) (fA:=R.fA) (fc:=R.fc) (fx:=R.fx) (sA:=R.sA) (sc:=R.sc) (tA:=R.tA) (tc:=R.tc) hkn bY hrr G hn apm NG.more (λu hu=> .inl hu) (aI hX).symm G.fly.symm mH⟩
  refine zN 6 ?_;obtain ⟨PW,vN⟩: ∃ r,bq m.off x.l.q=r:=⟨_,rfl⟩;have HQ:=λw h=>mU m.off x.l.q w h;rw [vN] at HQ;refine mF (X:=Nat) (λxv=>[(0,.pointer (some ⟨kw,0,none⟩)),(3,.pointer (some ⟨b1,0,none⟩)),(6,.pointer (some ⟨xv,0,none⟩)),(7,iV PW.2)]) (λxv wr=>St B w0 wr ((.blk xv #[iV PW.1.node,iV PW.1.epoch] 32)::(.blk b1 (LX.row x) 105)::(.blk kn (dJ n X.up (.slice z.tA X.data.length z.tc) X.syn (.slice (some ⟨z.bb,0,none⟩) 4 4) X.hints X.sure (.slice z.iA z.ix.length z.ic) (z.pv) X.turn) 87)::(.own 43 6 (.slice (some ⟨z.bb,0,none⟩) 4 4) 4 ((z.bx).flatMap BX.cells))::(fL z.iA z.ix z.ic)::(bW kw (.slice (some ⟨ab,ao,none⟩) 5 R.nc) m.off R.fA R.fx R.fc m.shown R.sA m.aU R.sc R.tA m.bL R.tc m.calls)::(oL R.fA R.fx R.fc)::(oS R.sA m.aU R.sc)::(oT R.tA m.bL R.tc)::rr)) ?_ ?_
  ·have abj:=S3.drew;refine aF 13 abj [] ?_;refine aJ 3 ?_;refine ak (v:= .agg ((m.off.cells).toArray)) 3 rfl abj (λ_ arZ=>(aj rfl rfl (aA (cs:=(m.off.cells)) Tryz.underlying35 rfl oQ rfl (St.rg 4 arZ rfl (xM))))) ?_;refine aJ 2 ?_;refine gZ (n:=6) (r:=6) (s:=10) (by kernel_rfl) ?_ ?_
   ·refine iO 6 rfl yX (HQ _ (Uk.nw hu abj)) ?_;rintro _ aAq ⟨rfl,ar0⟩;refine ⟨_,rfl,?_⟩;have axa:=abj.on ar0;refine aJ 4 ?_;refine aW 10 ?_;refine kU 10 rfl axa En ?_;intro axb aAr axc;refine bZ ?_;refine aW 11 ?_;refine sn 11 rfl 0 axc iQ ?_;intro aAs axd;refine aJ 3 ?_;refine dG axb ?_ ⟨rfl,rfl,rfl,rfl,trivial⟩;exact axd
   refine kU 10 rfl abj En ?_;intro axe aAt apn;refine bZ ?_;refine aW 6 ?_;refine iO 6 rfl yX (HQ _ (Uk.nw hu apn)) ?_;rintro _ aAu ⟨rfl,ar1⟩;refine ⟨_,rfl,?_⟩;have axf:=apn.on ar1;refine aJ 4 ?_;refine aW 11 ?_;refine sn 11 rfl 0 axf iQ ?_;intro aAv axg;refine aJ 3 ?_;refine dG axe ?_ ⟨rfl,rfl,rfl,rfl,trivial⟩;exact axg
  rintro axh aAw akZ
  try dsimp only at akZ
  refine bC (l':=[(0,.pointer (some ⟨kw,0,none⟩)),(3,.pointer (some ⟨b1,0,none⟩)),(6,.pointer (some ⟨axh,0,none⟩)),(7,iV PW.2)]) ⟨rfl,rfl,rfl,rfl,trivial⟩ (aK (aC (vm ?_)));by_cases aAx:PW.2=0
  ·refine zN 14 ?_;refine vv (v:= .agg #[iV 6,iV (-2),iV x.l.fr,iV ((x.l.q:Nat):Int),iV PW.1.epoch,iV 0,iV PW.1.node,iV 0,iV 0,iV 0,iV 0,iV 0,iV 0,.slice none 0 0,.bool false,iV 0,iV 0,iV 0,iV 0,iV 0,iV 0,iV 0,iV 0]) gF ?_;have axi:=akZ.dW [6,6];refine dH yc (gP (x:=⟨nU x.l.fr x.l.q PW.1,none,0⟩) axi (by omega)) ?_;rintro _ aAy ⟨rfl,axj,axk,ar2,ajq,axl⟩;refine ⟨_,rfl,?_⟩;refine zQ ?_;refine bT (l':=[]) trivial (iw (bg (rs:=[]) (vs:=[]) rfl trivial ?_));have af0:=axl.aS [3,2];have apo:=af0.dW [6,6,3,3,6,6,6];rw [<-qA] at apo;have kQ:eZ m.off x.l=m.off:=by
    unfold eZ
    first | rw [JD,if_neg (by omega)] | rw [if_neg (by omega)]
   rw [rz (PW:=PW) qy (by rw [kQ];exact vN) (by assumption),kQ];exact ⟨rfl,Wd.dM (X':=X) (z':=z) (Ls:=[]) (fA:=axj) (fc:=axk) (fx:=ar2) (sA:=R.sA) (sc:=R.sc) (tA:=R.tA) (tc:=R.tc) hkn bY hrr G hn apo NG.more (by rw [ajq];exact oh (iU rfl)) (aI hX).symm (by rw [ajq,List.map_append,G.fly];rfl) mH⟩
  refine zN 7 ?_;have apq:=akZ.aS [1,0];rw [<-qA] at apq;have kQ:eZ m.off x.l=m.off:=by
   unfold eZ
   first | rw [JD,if_neg (by omega)] | rw [if_neg (by omega)]
  rw [rA (PW:=PW) qy (by rw [kQ];exact vN) (by assumption),kQ];exact ⟨rfl,Wd.dM (X':=X) (z':=z) (Ls:=[]) (fA:=R.fA) (fc:=R.fc) (fx:=R.fx) (sA:=R.sA) (sc:=R.sc) (tA:=R.tA) (tc:=R.tc) hkn bY hrr G hn apq NG.more (λu hu=> .inl hu) (aI hX).symm G.fly.symm mH⟩
 refine zN 18 ?_;refine fC S3 mixed (by kernel_rfl) ?_;refine zN 3 ?_;refine uv (v:= .slice (some ⟨ab,ao,none⟩) 5 R.nc) (λ_ ar3=>(aj rfl rfl (ay Tryz.underlying72 rfl (St.cl 4 ar3 rfl zS)))) ?_;refine zQ ?_;refine uv (v:=iV ((n:Nat):Int)) (λ_ ar4=>(qy▸(aj rfl rfl (ay Tryz.underlying3 rfl (St.cl 0 ar4 rfl rfl))))) ?_;refine uv (λ_ _=>jd n) ?_;refine uv (v:= .pointer (some ⟨kn,0,none⟩)) (λ_ ar5=>(aj rfl rfl (ay Tryz.underlying80 rfl (hkn▸vM harr hn ar5 (memT 8 rfl hL))))) ?_;refine zN 4 ?_;refine eT λaAz apr=>?_;refine zQ ?_
 cases ayU:(X.up)
 ·refine bC (l':=[(0,.pointer (some ⟨kw,0,none⟩)),(3,.pointer (some ⟨b1,0,none⟩)),(76,.bool false)]) ⟨rfl,rfl,rfl,trivial⟩ (lG rfl (qD (iw (bg (rs:=[]) (vs:=[]) rfl trivial ?_))));have aps:=apr.aS [0];rw [<-qA] at aps;rw [abe qy hX (by assumption)];exact ⟨rfl,Wd.dM (X':=X) (z':=z) (Ls:=[]) (fA:=R.fA) (fc:=R.fc) (fx:=R.fx) (sA:=R.sA) (sc:=R.sc) (tA:=R.tA) (tc:=R.tc) hkn bY hrr G hn aps NG.more (λu hu=> .inl hu) (aI hX).symm G.fly.symm mH⟩
 refine bC (l':=[(0,.pointer (some ⟨kw,0,none⟩)),(3,.pointer (some ⟨b1,0,none⟩)),(76,.bool true)]) ⟨rfl,rfl,rfl,trivial⟩ (lF rfl (aK (fC apr mixed (by kernel_rfl) ?_)));refine zN 3 ?_;refine uv (v:= .slice (some ⟨ab,ao,none⟩) 5 R.nc) (λ_ ar6=>(aj rfl rfl (ay Tryz.underlying72 rfl (St.cl 4 ar6 rfl zS)))) ?_;refine zQ ?_;refine uv (v:=iV ((n:Nat):Int)) (λ_ ar7=>(qy▸(aj rfl rfl (ay Tryz.underlying3 rfl (St.cl 0 ar7 rfl rfl))))) ?_;refine uv (λ_ _=>jd n) ?_;refine uv (v:= .pointer (some ⟨kn,0,none⟩)) (λ_ ar8=>(aj rfl rfl (ay Tryz.underlying80 rfl (hkn▸vM harr hn ar8 (memT 8 rfl hL))))) ?_;refine zQ ?_;refine eT λaAA axn=>?_;refine zQ ?_;have af2:=axn.drew;refine fq 11 8 af2 [3] ?_;iterate 6 refine gM ?_
 refine eU (m:=4) (r:=6) (by kernel_rfl) ?_;refine lQ (i:=6) rfl rfl (V:=λb=> .slice (some ⟨b,0,none⟩) 1 1) (row:=LX.row x) (t:=105) af2 (wn rfl) rfl rfl (aV (vs:=[(0,.agg (LX.row x))]) rfl ⟨rfl,rfl,trivial⟩ (by kernel_rfl)) ?_;intro aAB aAC apt;refine gM ?_;refine eU (m:=3) (r:=7) (by kernel_rfl) ?_;refine Zr (i:=7) rfl rfl (news:=(LX.cells x)) (xs':=(z.ix++[x]).flatMap LX.cells) 4 apt (wn rfl) rfl rfl rfl rfl rfl rfl (St.lY (xs:=(LX.cells x)) 0 apt rfl rfl rfl) (by decide) Tryz.underlying73 Yb rfl (by decide) (DY _) (by simp only [maxLen];omega) (by omega) (jO (enc:=LX.cells) rfl rfl) ?_;intro apu apv aAD axo;refine gM ?_;refine dY (by kernel_rfl) rfl rfl rfl ?_;refine zN 2 ?_;refine jw (row':=dJ n X.up (.slice z.tA X.data.length z.tc) X.syn (.slice (some ⟨z.bb,0,none⟩) 4 4) X.hints X.sure (.slice apu (z.ix.length+1) apv) (z.pv) X.turn) 2 axo Cc ?_;intro aAE axp;refine zQ ?_;refine iP ?_;refine bT (l':=[]) trivial (iw (bg (rs:=[]) (vs:=[]) rfl trivial ?_));have ak0:=axp.aS [1,0];rw [<-qA] at ak0;have U8:z.ix.length+1=(z.ix++[x]).length:=by simp
 rw [U8] at ak0;rw [abd qy hX (by assumption)];exact ⟨rfl,Wd.dM (X':=X.box (X.inbox++[x.l])) (z':={ z with iA:=apu,ic:=apv,ix:=z.ix++[x] }) (Ls:=[]) (fA:=R.fA) (fc:=R.fc) (fx:=R.fx) (sA:=R.sA) (sc:=R.sc) (tA:=R.tA) (tc:=R.tc) hkn bY hrr G hn ak0 (NG.more.arM (by rw [List.append_nil];exact G.hld x (List.mem_cons_self ..))) (λu hu=> .inl hu) rfl G.fly.symm mH⟩
set_option linter.unnecessarySimpa false
theorem Va {α β:Type} (f:α->β): ∀ (l:List α) (i:Nat),(l.eraseIdx i).map f=(l.map f).eraseIdx i
 | [],_=>rfl
 | _::_,0=>rfl
 | a::l,i+1=>congrArg (f a:: ·) (Va f l i)
theorem abk {m:Cl} {at_:Nat} {c s:Bool} (h:m.fly.length=0):m.pick at_ c s=m:=by
 unfold Cl.pick;rw [List.length_eq_zero_iff.1 h];rfl
theorem BG {m:Cl} {at_:Nat} {c s:Bool} {l:iD} (h:m.fly[at_ % m.fly.length]? =some l):m.pick at_ c s=if c=true then (if s=true then m else { m with fly:=m.fly.eraseIdx (at_ % m.fly.length) }).come l else if s=true then m else { m with fly:=m.fly.eraseIdx (at_ % m.fly.length) }:=by
 unfold Cl.pick;rw [h]
theorem Wd.drop1 {K:CK} {B:Nat} {w0 w:World} {fs:List Fact} {m:Cl} {x:LX} {H:List LX} (h:Wd K B w0 w fs m (x::H)):Wd K B w0 w fs m H:=by
 obtain ⟨R,G,S⟩:=h;exact ⟨R,⟨G.fly,G.flo,G.kY,G.arr,λu hu=>G.hld u (List.mem_cons_of_mem _ hu)⟩,S⟩
theorem Dv {K:CK} {B n kn kw:Nat} {w0 w:World} {fs:List Fact} {m:Cl} {H:List LX} {at_:Nat} {comes stays:Bool} (hn:n<5) (hkn:K.nb n=kn) (bY:K.wb=kw) (hu:Uk B w0) (hB1:m.fly.length<=1000000000) (hB2:m.bL.length<=1000000000000) (hib: ∀ j,j<5->(m.ah j).inbox.length<=1000000000) (HW:Wd K B w0 w fs m H) (qy: ∀ l∈m.fly,∃ j,j<5/\(l.tg= -1\/l.tg= -2\/l.tg=((j:Nat):Int))):
    Calls Tryz.prog 29 #[pV kw 0,iV ((at_:Nat):Int),.bool comes,.bool stays] w (λe w'=>e= .returned (.tuple #[])/\Wd K B w0 w' fs (m.pick at_ comes stays) H):=by
 obtain ⟨R,G,S0⟩:=HW.open hn;have hfl:R.fx.length=m.fly.length:=by rw [<-G.fly,List.length_map]
 have NG:=G.kY n hn;obtain ⟨X,hX⟩: ∃ X,m.ah n=X:=⟨_,rfl⟩;obtain ⟨z,hz⟩: ∃ z,R.nx n=z:=⟨_,rfl⟩;rw [hX,hz] at S0 NG;have hL: ∀ f∈R.L,f∈gq K R m fs n:=λf h=>List.mem_append_right _ (List.mem_append_right _ h);obtain ⟨rr,hrr⟩: ∃ r,gq K R m fs n=r:=⟨_,rfl⟩;rw [hrr] at S0 hL;have S:St B w0 w ((bN kn n X.up z.tA X.data z.tc X.syn z.bb X.hints X.sure z.iA z.ix z.ic z.pv X.turn)::(oB z.bb z.bx)::(fL z.iA z.ix z.ic)::(bW kw (.slice R.nA 5 R.nc) m.off R.fA R.fx R.fc m.shown R.sA m.aU R.sc R.tA m.bL R.tc m.calls)::(oL R.fA R.fx R.fc)::(oS R.sA m.aU R.sc)::(oT R.tA m.bL R.tc)::rr):=by subst hkn;subst bY;exact S0
 clear S0;have hlen:=(S.own 1 rfl).1;rw [iG (sz:=6) (λ_=>rfl)] at hlen;refine gu 47 Tryz.func29 ?_;refine cw [0,1,2,3] ?_;refine zN 6 ?_;refine vv (aj rfl rfl (ay Tryz.underlying73 rfl (St.cl 3 S rfl Rk))) ?_;refine zQ ?_;by_cases h1:((R.fx.length:Nat):Int)=0
 ·refine zN 7 ?_;rw [abk (by rw [<-hfl];omega)];exact ⟨rfl,HW⟩
 refine zN 7 ?_;obtain ⟨g2,hfA⟩:=Em (S.own 4 rfl) (by omega);have S2:=S;rw [hfA] at S2;obtain ⟨i,hit⟩: ∃ i,i=at_ % R.fx.length:=⟨_,rfl⟩;have hi:i<R.fx.length:=by rw [hit];exact Nat.mod_lt _ (by omega)
 obtain ⟨x,hx⟩: ∃ x,R.fx[i]? =some x:=⟨_,List.getElem?_eq_getElem hi⟩;have hxm:x∈R.fx:=List.mem_of_getElem? hx;have hfi:m.fly[at_ % m.fly.length]? =some x.l:=by rw [<-hfl,<-hit,<-G.fly,List.getElem?_map,hx];rfl
 refine zN 5 ?_;refine vv (aj rfl rfl (ay Tryz.underlying73 rfl (St.cl 3 S2 rfl Rk))) ?_;refine zQ ?_;refine vv (v:=iV ((i:Nat):Int)) (aL rfl rfl rfl (U3 hit (by omega))) ?_;refine zN 8 ?_;refine vv (aj rfl rfl (ay Tryz.underlying73 rfl (St.cl 3 S2 rfl Rk))) ?_;refine zQ ?_;refine vv (jd i) ?_;refine vv (aj rfl rfl (aA (cs:=LX.cells x) Tryz.underlying105 rfl xD rfl (Rd.vQ (St.ord 4 S2 rfl) (λ_ _ h=>aZ (enc:=LX.cells) (sz:=23) (λ_=>rfl) hx h)))) ?_;refine fF S2 abX ?_;intro b3 w4 S5;refine sa 0 S5 xD ?_;intro w6 S7;refine zN 6 ?_
 cases hb8:(stays)
 ·refine zN 9 ?_;refine vv (aj rfl rfl (ay Tryz.underlying73 rfl (St.cl 4 S7 rfl Rk))) ?_;refine zN 2 ?_;refine vv (v:=iV ((i+1:Nat):Int)) gD ?_;have S9:=S7.dW [7,7,7,7,7,7,7];refine dH ap4 (Tm g2 R.fx.length R.fc i _ (R.fx.flatMap LX.cells) _ (S9.own 4 rfl) (ahW _) hi) ?_;rintro _ YG ⟨rfl,axq,apw⟩;refine ⟨_,rfl,?_⟩;rw [JQ (enc:=LX.cells) (sz:=23) (λ_=>rfl)] at apw;have qw:=S9.abU 4 rfl axq apw;refine zN 2 ?_;refine jw 3 qw Cc ?_ (hs:=by exact akf);intro Jw gJ;refine zN 7 ?_
  cases aAF:(comes)
  ·refine bC (l':=[(0,pV kw 0),(9,pV b3 0),(43,.bool false)]) ⟨rfl,rfl,rfl,trivial⟩ (lG rfl (qD (bg (rs:=[]) (vs:=[]) rfl trivial ?_)));rw [BG hfi];have U8:R.fx.length-1=(R.fx.eraseIdx i).length:=by rw [List.length_eraseIdx,if_pos hi]
   rw [U8] at gJ;have ak1:=Wd.dM (X':=X) (z':=z) (m':={ m with fly:=m.fly.eraseIdx (at_ % m.fly.length) }) (H':=x::H) (Ls:=[.blk b3 #[iV x.l.kd,iV x.l.fr,iV x.l.tg,iV ((x.l.q:Nat):Int),iV x.l.ep,iV x.l.at_,iV x.l.nd,iV x.l.op.kind,iV x.l.op.producer,iV x.l.op.id,iV x.l.op.body,iV x.l.op.aR,iV x.l.op.hno,.slice x.A x.l.evs.length x.c,.bool x.l.last,iV x.l.num,iV x.l.bL.num,iV x.l.bL.ans.code,iV x.l.bL.ans.eD,iV x.l.bL.ans.hno,iV x.l.bL.ans.body,iV x.l.bL.pl.node,iV x.l.bL.pl.epoch] 105]) (fA:=(aD g2 0)) (fc:=R.fc) (fx:=R.fx.eraseIdx i) (sA:=R.sA) (sc:=R.sc) (tA:=R.tA) (tc:=R.tc) hkn bY hrr G hn gJ NG.more (λu hu=> .inl (List.mem_of_mem_eraseIdx hu)) (aI hX).symm (by rw [Va,G.fly,hit,hfl]) (λu hu=>(List.mem_cons.1 hu).elim (λe=> .inr (e▸((G.flo x hxm).mono λf hf=>List.mem_append_left _ hf))) .inl);exact ⟨rfl,by simpa [*] using Wd.drop1 ak1⟩
  refine bC (l':=[(0,pV kw 0),(9,pV b3 0),(43,.bool true)]) ⟨rfl,rfl,rfl,trivial⟩ (lF rfl (aC (vm ?_)));refine zQ ?_;have U8:R.fx.length-1=(R.fx.eraseIdx i).length:=by rw [List.length_eraseIdx,if_pos hi]
  rw [U8] at gJ;have axr:=Wd.dM (X':=X) (z':=z) (m':={ m with fly:=m.fly.eraseIdx (at_ % m.fly.length) }) (H':=x::H) (Ls:=[.blk b3 #[iV x.l.kd,iV x.l.fr,iV x.l.tg,iV ((x.l.q:Nat):Int),iV x.l.ep,iV x.l.at_,iV x.l.nd,iV x.l.op.kind,iV x.l.op.producer,iV x.l.op.id,iV x.l.op.body,iV x.l.op.aR,iV x.l.op.hno,.slice x.A x.l.evs.length x.c,.bool x.l.last,iV x.l.num,iV x.l.bL.num,iV x.l.bL.ans.code,iV x.l.bL.ans.eD,iV x.l.bL.ans.hno,iV x.l.bL.ans.body,iV x.l.bL.pl.node,iV x.l.bL.pl.epoch] 105]) (fA:=(aD g2 0)) (fc:=R.fc) (fx:=R.fx.eraseIdx i) (sA:=R.sA) (sc:=R.sc) (tA:=R.tA) (tc:=R.tc) hkn bY hrr G hn gJ NG.more (λu hu=> .inl (List.mem_of_mem_eraseIdx hu)) (aI hX).symm (by rw [Va,G.fly,hit,hfl]) (λu hu=>(List.mem_cons.1 hu).elim (λe=> .inr (e▸((G.flo x hxm).mono λf hf=>List.mem_append_left _ hf))) .inl);obtain ⟨nn,hnn,htt⟩: ∃ nn,nn<5/\(x.l.tg= -1\/x.l.tg= -2\/x.l.tg=((nn:Nat):Int)):=qy x.l (by rw [<-G.fly];exact List.mem_map_of_mem hxm);refine dH ajG (Du (m:={ m with fly:=m.fly.eraseIdx (at_ % m.fly.length) }) (x:=x) hnn rfl bY hu (by first | omega | (show (m.fly.eraseIdx _).length<=_;have:=List.length_eraseIdx_le m.fly (at_ % m.fly.length);omega)) hB2 (hib nn hnn) axr htt) ?_;rintro _ Gc ⟨rfl,axt⟩;refine ⟨_,rfl,?_⟩;refine zQ ?_;refine bT (l':=[]) trivial (bg (rs:=[]) (vs:=[]) rfl trivial ?_);rw [BG hfi];exact ⟨rfl,by simpa [*] using axt⟩
 refine zN 11 ?_
 cases aAG:(comes)
 ·refine bC (l':=[(0,pV kw 0),(9,pV b3 0),(43,.bool false)]) ⟨rfl,rfl,rfl,trivial⟩ (lG rfl (qD (bg (rs:=[]) (vs:=[]) rfl trivial ?_)));rw [BG hfi];have iW:=S7.dW [7,7,7,7,7,7,7];rw [<-hfA] at iW;have axu:=Wd.dM (X':=X) (z':=z) (m':=m) (H':=x::H) (Ls:=[.blk b3 #[iV x.l.kd,iV x.l.fr,iV x.l.tg,iV ((x.l.q:Nat):Int),iV x.l.ep,iV x.l.at_,iV x.l.nd,iV x.l.op.kind,iV x.l.op.producer,iV x.l.op.id,iV x.l.op.body,iV x.l.op.aR,iV x.l.op.hno,.slice x.A x.l.evs.length x.c,.bool x.l.last,iV x.l.num,iV x.l.bL.num,iV x.l.bL.ans.code,iV x.l.bL.ans.eD,iV x.l.bL.ans.hno,iV x.l.bL.ans.body,iV x.l.bL.pl.node,iV x.l.bL.pl.epoch] 105]) (fA:=R.fA) (fc:=R.fc) (fx:=R.fx) (sA:=R.sA) (sc:=R.sc) (tA:=R.tA) (tc:=R.tc) hkn bY hrr G hn iW NG.more (λu hu=> .inl hu) (aI hX).symm G.fly.symm (λu hu=>(List.mem_cons.1 hu).elim (λe=> .inr (e▸((G.flo x hxm).mono λf hf=>List.mem_append_left _ hf))) .inl);exact ⟨rfl,by simpa [*] using Wd.drop1 axu⟩
 refine bC (l':=[(0,pV kw 0),(9,pV b3 0),(43,.bool true)]) ⟨rfl,rfl,rfl,trivial⟩ (lF rfl (aC (vm ?_)));refine zQ ?_;have jB:=S7.dW [7,7,7,7,7,7,7];rw [<-hfA] at jB;have axv:=Wd.dM (X':=X) (z':=z) (m':=m) (H':=x::H) (Ls:=[.blk b3 #[iV x.l.kd,iV x.l.fr,iV x.l.tg,iV ((x.l.q:Nat):Int),iV x.l.ep,iV x.l.at_,iV x.l.nd,iV x.l.op.kind,iV x.l.op.producer,iV x.l.op.id,iV x.l.op.body,iV x.l.op.aR,iV x.l.op.hno,.slice x.A x.l.evs.length x.c,.bool x.l.last,iV x.l.num,iV x.l.bL.num,iV x.l.bL.ans.code,iV x.l.bL.ans.eD,iV x.l.bL.ans.hno,iV x.l.bL.ans.body,iV x.l.bL.pl.node,iV x.l.bL.pl.epoch] 105]) (fA:=R.fA) (fc:=R.fc) (fx:=R.fx) (sA:=R.sA) (sc:=R.sc) (tA:=R.tA) (tc:=R.tc) hkn bY hrr G hn jB NG.more (λu hu=> .inl hu) (aI hX).symm G.fly.symm (λu hu=>(List.mem_cons.1 hu).elim (λe=> .inr (e▸((G.flo x hxm).mono λf hf=>List.mem_append_left _ hf))) .inl);obtain ⟨nn,hnn,htt⟩: ∃ nn,nn<5/\(x.l.tg= -1\/x.l.tg= -2\/x.l.tg=((nn:Nat):Int)):=qy x.l (by rw [<-G.fly];exact List.mem_map_of_mem hxm);refine dH ajG (Du (m:=m) (x:=x) hnn rfl bY hu (by first | omega | (show (m.fly.eraseIdx _).length<=_;have:=List.length_eraseIdx_le m.fly (at_ % m.fly.length);omega)) hB2 (hib nn hnn) axv htt) ?_;rintro _ NA ⟨rfl,axw⟩;refine ⟨_,rfl,?_⟩;refine zQ ?_;refine bT (l':=[]) trivial (bg (rs:=[]) (vs:=[]) rfl trivial ?_);rw [BG hfi];exact ⟨rfl,by simpa [*] using axw⟩
theorem abl {calls:Nat} {nv fv sv tv x:Value} {d:Dir} {sh:Nat->Nat->Int×Int}:cu (kP nv d fv sh sv tv calls) 0 [x]=kP x d fv sh sv tv calls:=Ih (Nat.le_of_ble_eq_true rfl) rfl
theorem St.flip {B:Nat} {w0 w:World} {gs fs:List Fact} (S:St B w0 w (gs++fs)):St B w0 w (fs++gs):=S.perm List.perm_append_comm
def ajr (a b c d e:Nat):Nat->Nat
 | 0=>a
 | 1=>b
 | 2=>c
 | 3=>d
 | _=>e
theorem Oy {L:List Fact}: ∀ y∈sK,Bo L y:=λy hy=>by
 have:y=Qp:=by simpa [sK] using hy
 subst this;exact ⟨Ro.none_,Nat.zero_le _⟩
theorem Uo {B:Nat} {w0 w:World} {fs:List Fact} (S:St B w0 w fs) (hu:Uk B w0):
    Calls Tryz.prog 18 #[] w (λe w'=> ∃ K:CK,e= .returned (pV K.wb 0)/\Wd K B w0 w' fs dZ []):=by
 refine gu 27 Tryz.func18 ?_;refine bC (l':=[]) trivial (aK (aC (va ?_)));refine zN 4 ?_;refine dH asU (WQ _ (Uk.nw hu S)) ?_;rintro _ w1 ⟨rfl,hb3⟩;refine ⟨_,rfl,?_⟩;have S2:=S.on hb3;refine vv (v:= .agg (kP (.slice none 0 0) (⟨nowhere,nowhere,nowhere,nowhere⟩:Dir) (.slice none 0 0) (λ_ _=>(0,0)) (.slice none 0 0) (.slice none 0 0) 0)) gF ?_;refine iK S2 ?_;intro b4 w5 S6;refine zN 10 ?_;refine Ow (l8 (aK (aC (vv Cq ?_))));refine zN 17 ?_;refine vv (v:= .agg (dJ 0 true (.slice none 0 0) 0 (.slice none 0 0) (λ_=>(⟨0,0⟩:Pl)) (λ_=>false) (.slice none 0 0) (.nilFunc) 0)) gF ?_;refine iK S6 ?_;intro b7 w8 S9;refine zN 6 ?_;refine dH QV (mY S9 hu) ?_;rintro _ Jp ⟨rfl,axx,mJ⟩;refine ⟨_,rfl,?_⟩;refine zN 2 ?_;have wD:=mJ.nil 80 1;refine zN 5 ?_;refine vv (aj rfl rfl (ay Tryz.underlying72 rfl (St.cl 3 wD rfl zS))) ?_;refine zQ ?_;refine bsI wD ?_;intro b14 Gl kN;refine eB (news:=[pV b7 0]) (xs':=[gN b7]) 1 kN (wn rfl) rfl rfl rfl rfl rfl rfl (St.lY (xs:=[pV b7 0]) 0 kN rfl rfl rfl) Tryz.underlying72 DJ rfl (by decide) (bX rfl) (by simp only [maxLen];omega) (by omega) rfl ?_;intro Mx c18 Gc hc21 aAH lT;refine zN 2 ?_;refine jw 4 lT E8 ?_ (hs:=by exact abl);intro Js jB;refine zN 4 ?_;refine vv (v:=iV 1) gD ?_;refine zN 2 ?_;refine pU (l8 (aK (aC (vv Cq ?_))));refine zN 17 ?_;refine vv (v:= .agg (dJ 1 true (.slice none 0 0) 0 (.slice none 0 0) (λ_=>(⟨0,0⟩:Pl)) (λ_=>false) (.slice none 0 0) (.nilFunc) 0)) gF ?_;refine iK jB ?_;intro RP NA tQ;refine zN 6 ?_;refine dH QV (mY tQ hu) ?_;rintro _ ZO ⟨rfl,axy,sP⟩;refine ⟨_,rfl,?_⟩;refine zN 7 ?_;refine vv (aj rfl rfl (ay Tryz.underlying72 rfl (St.cl 6 sP rfl zS))) ?_;refine zQ ?_;refine bsI sP ?_;intro b31 w32 qx;refine eB (news:=[pV RP 0]) (xs':=[gN b7,gN RP]) 4 qx (wn rfl) rfl rfl rfl rfl rfl rfl (St.lY (xs:=[pV RP 0]) 0 qx rfl rfl rfl) Tryz.underlying72 DJ rfl (by decide) (bX rfl) (by simp only [maxLen];omega) (by omega) rfl ?_;intro A34 c35 w36 hc38 auZ l6;refine zN 2 ?_;refine jw 7 l6 E8 ?_ (hs:=by exact abl);intro w40 DN;refine zN 4 ?_;refine vv (v:=iV 2) gD ?_;refine zN 2 ?_;refine pU (l8 (aK (aC (vv Cq ?_))));refine zN 17 ?_;refine vv (v:= .agg (dJ 2 true (.slice none 0 0) 0 (.slice none 0 0) (λ_=>(⟨0,0⟩:Pl)) (λ_=>false) (.slice none 0 0) (.nilFunc) 0)) gF ?_;refine iK DN ?_;intro YR w43 Fj;refine zN 6 ?_;refine dH QV (mY Fj hu) ?_;rintro _ Yz ⟨rfl,axz,zh⟩;refine ⟨_,rfl,?_⟩;refine zN 7 ?_;refine vv (aj rfl rfl (ay Tryz.underlying72 rfl (St.cl 9 zh rfl zS))) ?_;refine zQ ?_;refine bsI zh ?_;intro YJ Zz vS;refine eB (news:=[pV YR 0]) (xs':=[gN b7,gN RP,gN YR]) 7 vS (wn rfl) rfl rfl rfl rfl rfl rfl (St.lY (xs:=[pV YR 0]) 0 vS rfl rfl rfl) Tryz.underlying72 DJ rfl (by decide) (bX rfl) (by simp only [maxLen];omega) (by omega) rfl ?_;intro A51 c52 w53 aAI aAJ mM;refine zN 2 ?_;refine jw 10 mM E8 ?_ (hs:=by exact abl);intro w57 Dc;refine zN 4 ?_;refine vv (v:=iV 3) gD ?_;refine zN 2 ?_;refine pU (l8 (aK (aC (vv Cq ?_))));refine zN 17 ?_;refine vv (v:= .agg (dJ 3 true (.slice none 0 0) 0 (.slice none 0 0) (λ_=>(⟨0,0⟩:Pl)) (λ_=>false) (.slice none 0 0) (.nilFunc) 0)) gF ?_
 refine iK Dc ?_;intro U2 YE Fp;refine zN 6 ?_;refine dH QV (mY Fp hu) ?_;rintro _ w63 ⟨rfl,axA,S64⟩;refine ⟨_,rfl,?_⟩;refine zN 7 ?_;refine vv (aj rfl rfl (ay Tryz.underlying72 rfl (St.cl 12 S64 rfl zS))) ?_;refine zQ ?_;refine bsI S64 ?_;intro b65 UK uz;refine eB (news:=[pV U2 0]) (xs':=[gN b7,gN RP,gN YR,gN U2]) 10 uz (wn rfl) rfl rfl rfl rfl rfl rfl (St.lY (xs:=[pV U2 0]) 0 uz rfl rfl rfl) Tryz.underlying72 DJ rfl (by decide) (bX rfl) (by simp only [maxLen];omega) (by omega) rfl ?_;intro A68 c69 ZG aAK aAL rG;refine zN 2 ?_;refine jw 13 rG E8 ?_ (hs:=by exact abl);intro w74 Bb;refine zN 4 ?_;refine vv (v:=iV 4) gD ?_;refine zN 2 ?_;refine pU (l8 (aK (aC (vv Cq ?_))));refine zN 17 ?_;refine vv (v:= .agg (dJ 4 true (.slice none 0 0) 0 (.slice none 0 0) (λ_=>(⟨0,0⟩:Pl)) (λ_=>false) (.slice none 0 0) (.nilFunc) 0)) gF ?_;refine iK Bb ?_;intro b76 w77 Fv;refine zN 6 ?_;refine dH QV (mY Fv hu) ?_;rintro _ w80 ⟨rfl,axB,sN⟩;refine ⟨_,rfl,?_⟩;refine zN 7 ?_;refine vv (aj rfl rfl (ay Tryz.underlying72 rfl (St.cl 15 sN rfl zS))) ?_;refine zQ ?_;refine bsI sN ?_;intro b82 w83 Fq;refine eB (news:=[pV b76 0]) (xs':=[gN b7,gN RP,gN YR,gN U2,gN b76]) 13 Fq (wn rfl) rfl rfl rfl rfl rfl rfl (St.lY (xs:=[pV b76 0]) 0 Fq rfl rfl rfl) Tryz.underlying72 DJ rfl (by decide) (bX rfl) (by simp only [maxLen];omega) (by omega) rfl ?_;intro A85 c86 w87 aAM aAN Jv;refine zN 2 ?_;refine jw 16 Jv E8 ?_ (hs:=by exact abl);intro w91 ze;refine zN 4 ?_;refine vv (v:=iV 5) gD ?_;refine zN 2 ?_;refine pU (l8 (aK (aC (vv ai0 ?_))));refine zN 17 ?_;have Db:St _ _ _ (_::_::_::_::_::_::_::_::_::_::_::_::_::_::_::_::_::fs):=ze.bH 13 rfl;have Fg:=Db.aS [12,9,6,3,0];have DV:=Fg.nil 103 7;have zC:=DV.nil 150 14;have Dg:=zC.nil 105 23;have zY:=Dg.Cg 105 23;have UJ:=zY.Cg 105 23;have rY:=UJ.Cg 105 23;have vY:=rY.Cg 105 23;have tq:=vY.Cg 105 23;have qK:=tq.dW [16];have yD:=qK.dW [5];have rZ:=yD.dW [10];have CP:=rZ.dW [10];have yC:=CP.dW [7];have u7:=yC.dW [12];have IX:=u7.dW [12];have pK:=IX.dW [9];have Bc:=pK.dW [14];have vX:=Bc.dW [14];have nu:=vX.dW [11];have xJ:=nu.dW [16];have og:=xJ.dW [16];have tu:=og.dW [13];have zT:=tu.dW [18];have vW:=zT.dW [18];have qL:=vW.dW [18];have oI:=qL.dW [18];have zP:=oI.dW [18];have Cz:=zP.dW [19];refine ⟨⟨b4,ajr b7 RP YR U2 b76⟩,rfl,⟨λj=>⟨ajr axx axy axz axA axB j,none,0,sK,none,0,[],.nilFunc⟩,none,0,[],none,0,none,0,A85,c86,[.cB 1 A85 5 [gN b7,gN RP,gN YR,gN U2,gN b76]]⟩,?_,St.flip (gs:=[_,_,_,_,_,_,_,_,_,_,_,_,_,_,_,_,_,_,_,_]) (fs:=fs) Cz⟩;exact ⟨rfl,λx hx=>(by cases hx),λn hn=>⟨rfl,Oy,Ro.none_,rfl,λy hy=>(by cases hy),rfl⟩,Ro.cB (List.mem_singleton.2 rfl),λx hx=>(by cases hx)⟩
section
variable {m mm:Cl} {n q k:Nat} {a:Ac} {PW:Pl×Int} {T S D K:Nat} {x:iD} {fl:List iD}
theorem ain (h:bq m.off q=PW): ∃ nn,nn<5/\(PW.2=0->PW.1.node=((nn:Nat):Int)):=by
 subst h;by_cases c:(bq m.off q).2=0
 ·obtain ⟨h1,h2,_⟩:=uW (λh=>h c);exact ⟨_,h1,λ_=>by omega⟩
 exact ⟨0,by omega,λh=>absurd h c⟩
theorem ae0 (h:fK m T S D K):fK { m with fly:=[] } (T+0) S (D+0) K:=by
 refine ⟨h.kY,λl hl=>(by simp at hl),h.mP,?_,h.aU,h.bL,h.turn,h.calls⟩;have:=h.room;unfold Cl.tot at this⊢;dsimp only [List.length_nil];omega
theorem ae1 (h:fl[k]? =some x):(fl.drop k).foldl Cl.come mm=(fl.drop (k+1)).foldl Cl.come (mm.come x):=by rw [drop_cons h,List.foldl_cons]
theorem ae2 (h:a.kd=1) (hn:a.nd=((n:Nat):Int)) (hq:a.qu=((q:Nat):Int)):m.act a=m.make n q:=by
 unfold Cl.act;rw [if_pos h,hn,hq,Int.toNat_natCast,Int.toNat_natCast]
theorem ae3 (h:a.kd=2) (hq:a.qu=((q:Nat):Int)):m.act a={ m with fly:=m.fly++[Qr a.nd q a.op m.calls],calls:=m.calls+1 }:=by
 unfold Cl.act;rw [if_neg (by omega),if_pos h,hq,Int.toNat_natCast]
theorem ae4 (h:a.kd=3) (hn:a.nd=((n:Nat):Int)):m.act a=m.step n:=by
 unfold Cl.act;rw [if_neg (by omega),if_neg (by omega),if_pos h,hn,Int.toNat_natCast]
theorem Kj (h:a.kd=4\/a.kd=5\/a.kd=6):m.act a=m.pick a.at_.toNat (decide (a.kd≠5)) (decide (a.kd=6)):=by
 unfold Cl.act;rw [if_neg (by omega),if_neg (by omega),if_neg (by omega),if_pos h]
theorem aio (h:a.kd=4):m.act a=m.pick a.at_.toNat true false:=by rw [Kj (.inl h),h];rfl
theorem aip (h:a.kd=5):m.act a=m.pick a.at_.toNat false false:=by rw [Kj (.inr (.inl h)),h];rfl
theorem aiq (h:a.kd=6):m.act a=m.pick a.at_.toNat true true:=by rw [Kj (.inr (.inr h)),h];rfl
theorem air (h:a.kd=7):m.act a=m.all:=by
 unfold Cl.act;rw [if_neg (by omega),if_neg (by omega),if_neg (by omega),if_neg (by omega),if_pos h]
theorem Oz (h:a.kd=8) (hn:a.nd=((n:Nat):Int)):m.act a=m.crash n a.kp:=by
 unfold Cl.act;rw [if_neg (by omega),if_neg (by omega),if_neg (by omega),if_neg (by omega),if_neg (by omega),if_pos h,hn,Int.toNat_natCast]
theorem abm (h:a.kd=9) (hn:a.nd=((n:Nat):Int)):m.act a=m.start n:=by
 unfold Cl.act;rw [if_neg (by omega),if_neg (by omega),if_neg (by omega),if_neg (by omega),if_neg (by omega),if_neg (by omega),if_pos h,hn,Int.toNat_natCast]
theorem abn (h:a.kd≠1) (h2:a.kd≠2) (h3:a.kd≠3) (h4:a.kd≠4) (h5:a.kd≠5) (h6:a.kd≠6) (h7:a.kd≠7) (h8:a.kd≠8) (h9:a.kd≠9) (hq:a.qu=((q:Nat):Int)):m.act a=m.move q a.nd:=by
 unfold Cl.act;rw [if_neg h,if_neg h2,if_neg h3,if_neg (by omega),if_neg h7,if_neg h8,if_neg h9,hq,Int.toNat_natCast]
theorem ae5 (h:(m.ah n).up=true) {kp:Int}:m.crash n kp=m.put n ((m.ah n).crashed kp):=if_pos h
theorem abo (h:(m.ah n).up=false) {kp:Int}:m.crash n kp=m:=by
 unfold Cl.crash;rw [if_neg (by rw [h];simp)]
end
theorem ae6 {K:CK} {B n kn kw:Nat} {w0 w:World} {fs:List Fact} {m:Cl} {H:List LX} {q k:Nat} {a:Ac} (hn:n<5) (hq:q<4) (hnd:a.nd=((n:Nat):Int)) (hqd:a.qu=((q:Nat):Int)) (hkn:K.nb n=kn) (bY:K.wb=kw) (hu:Uk B w0) (HW:Wd K B w0 w fs m H) (qB:fK m (4*k) (500000*k) (500000*k) k) (hk:k<=100000) (ha:Lx a) (hsh:ShN m):
    Calls Tryz.prog 19 #[pV kw 0,.agg #[iV a.kd,iV a.nd,iV a.qu,iV a.at_,iV a.kp,iV a.ek,iV a.ep,iV a.ei,iV a.eb,iV a.eh,iV a.en]] w (λe w'=>e= .returned (.tuple #[])/\Wd K B w0 w' fs (m.act a) H):=by
 obtain ⟨R,G,S0⟩:=HW.open hn;have hfl:R.fx.length=m.fly.length:=by rw [<-G.fly,List.length_map]
 have NG:=G.kY n hn;obtain ⟨X,hX⟩: ∃ X,m.ah n=X:=⟨_,rfl⟩;obtain ⟨z,hz⟩: ∃ z,R.nx n=z:=⟨_,rfl⟩;rw [hX,hz] at S0 NG;have hL: ∀ f∈R.L,f∈gq K R m fs n:=λf h=>List.mem_append_right _ (List.mem_append_right _ h);obtain ⟨rr,hrr⟩: ∃ r,gq K R m fs n=r:=⟨_,rfl⟩;rw [hrr] at S0 hL;have S:St B w0 w ((bN kn n X.up z.tA X.data z.tc X.syn z.bb X.hints X.sure z.iA z.ix z.ic z.pv X.turn)::(oB z.bb z.bx)::(fL z.iA z.ix z.ic)::(bW kw (.slice R.nA 5 R.nc) m.off R.fA R.fx R.fc m.shown R.sA m.aU R.sc R.tA m.bL R.tc m.calls)::(oL R.fA R.fx R.fc)::(oS R.sA m.aU R.sc)::(oT R.tA m.bL R.tc)::rr):=by subst hkn;subst bY;exact S0
 clear S0 HW;have hlen:=(S.own 1 rfl).1;rw [iG (sz:=6) (λ_=>rfl)] at hlen;obtain ⟨ab,ao,qA⟩:=Bw G.arr S (memT 7 rfl hL);have harr:=G.arr;rw [qA] at S harr;have hcl:=qB.calls;have aAO:=qB.fl;have ak2:a.at_=((a.at_.toNat:Nat):Int):=by have:=ha.at_;omega
 refine gu 144 Tryz.func19 ?_;refine cw [0,1] ?_;refine zN 2 ?_;refine iK S ?_;intro b1 w2 S3;refine zN 11 ?_;by_cases h4:a.kd=1
 ·refine zN 5 ?_;have S5:St B w0 w2 [.blk b1 #[iV a.kd,iV a.nd,iV a.qu,iV a.at_,iV a.kp,iV a.ek,iV a.ep,iV a.ei,iV a.eb,iV a.eh,iV a.en] 57]:=S3.sub (List.Sublist.cons_cons _ (List.nil_sublist _));have Vb:=S3.drew;have S6:=S5.drew;refine aF 12 S6 [] ?_;refine aJ 5 ?_;refine ak (v:=iV ((n:Nat):Int)) 6 rfl S6 (λ_ akU=>(Bz hnd (aj rfl rfl (ay Tryz.underlying3 rfl (St.cl 0 akU rfl rfl))))) ?_;refine bZ ?_;refine ak (v:=iV ((q:Nat):Int)) 10 rfl S6 (λ_ ajX=>(Bz hqd (aj rfl rfl (ay Tryz.underlying3 rfl (St.cl 0 ajX rfl rfl))))) ?_;refine aW 4 ?_;refine iC (i:=4) rfl rfl (v:= .slice (aD ab ao) 5 R.nc) (wn rfl) rfl rfl (aj rfl rfl (ay Tryz.underlying72 rfl (St.cl 4 Vb rfl zS))) ?_;refine bZ ?_;refine ak 7 rfl S6 (λ_ _=>jd n) ?_;refine aW 8 ?_;refine iC (i:=8) rfl rfl (v:=pV kn 0) (wn rfl) rfl rfl (aj rfl rfl (ay Tryz.underlying80 rfl (hkn▸vM harr hn Vb (memT 8 rfl hL)))) ?_;refine bZ ?_;refine aW 11 ?_;have kN:=Vb.dW [7,7,7,7,7,7,7];have iL:=kN;rw [<-qA] at iL;have ak1:=Wd.dM (m:=m) (m':=m) (H:=H) (H':=H) (fs:=(.blk b1 #[iV a.kd,iV a.nd,iV a.qu,iV a.at_,iV a.kp,iV a.ek,iV a.ep,iV a.ei,iV a.eb,iV a.eh,iV a.en] 57)::fs) (X':=X) (z':=z) (Ls:=[]) (fA:=R.fA) (fc:=R.fc) (fx:=R.fx) (sA:=R.sA) (sc:=R.sc) (tA:=R.tA) (tc:=R.tc) (rr:=(.blk b1 #[iV a.kd,iV a.nd,iV a.qu,iV a.at_,iV a.kp,iV a.ek,iV a.ep,iV a.ei,iV a.eb,iV a.eh,iV a.en] 57)::rr) hkn bY (by rw [<-hrr]<;>rfl) G hn iL NG.more (λu hu=> .inl hu) (aI hX).symm G.fly.symm mI;refine iO 11 rfl asV (XA hn hkn bY hu (by have:=qB.fl;omega) (by have:=qB.aU;omega) hq ak1 (qB.kY n hn).nC (λrs d h=>(qB.kY n hn).awM h)) ?_;rintro _ UN ⟨rfl,apx⟩;refine ⟨_,rfl,?_⟩;have rM:=Wd.wP (gs:=[.blk b1 #[iV a.kd,iV a.nd,iV a.qu,iV a.at_,iV a.kp,iV a.ek,iV a.ep,iV a.ei,iV a.eb,iV a.eh,iV a.en] 57]) apx;refine aJ 2 ?_;refine bT (l':=[]) trivial (iw (bg (rs:=[]) (vs:=[]) rfl trivial ?_));rw [ae2 (by assumption) hnd hqd];exact ⟨rfl,(Wd.less (gs:=[.blk b1 #[iV a.kd,iV a.nd,iV a.qu,iV a.at_,iV a.kp,iV a.ek,iV a.ep,iV a.ei,iV a.eb,iV a.eh,iV a.en] 57]) apx)⟩
 refine zN 7 ?_;by_cases h22:a.kd=2
 ·refine zN 6 ?_;have lV:=S3.dW [5,5];have jB:=lV.drew;refine aF 14 jB [1,0] ?_;refine aJ 4 ?_;refine ak (v:=iV ((q:Nat):Int)) 4 rfl (jB.pJ [1,0]) (λ_ aaY=>(Bz hqd (aj rfl rfl (ay Tryz.underlying3 rfl (St.cl 0 aaY rfl rfl))))) ?_;refine bZ ?_;refine ak (v:= .agg #[iV a.ek,iV a.ep,iV a.ei,iV a.eb,iV a.eh,iV a.en]) 6 rfl (jB.pJ [1,0]) (λ_ ZT=>(aj rfl rfl (aA (cs:=[iV a.ek,iV a.ep,iV a.ei,iV a.eb,iV a.eh,iV a.en]) Tryz.underlying53 rfl iE rfl (St.rg 0 ZT rfl (nS (x:=5) (m:=6) rfl))))) ?_;refine aJ 4 ?_;refine aW 11 ?_;refine iC (i:=11) rfl rfl (v:=iV ((m.calls:Nat):Int)) (wn rfl) rfl rfl (aj rfl rfl (ay Tryz.underlying3 rfl (St.cl 0 jB rfl ai6))) ?_;refine bZ ?_;refine ak (v:= .agg #[iV 0,iV (-1),iV a.nd,iV ((q:Nat):Int),iV 0,iV 0,iV 0,iV a.ek,iV a.ep,iV a.ei,iV a.eb,iV a.eh,iV a.en,.slice none 0 0,.bool false,iV ((m.calls:Nat):Int),iV 0,iV 0,iV 0,iV 0,iV 0,iV 0,iV 0]) 12 rfl (jB.pJ [1,0]) (λ_ _=>gF) ?_;refine aW 13 ?_;refine iO 13 rfl yc (gP (x:=⟨Qr a.nd q a.op m.calls,none,0⟩) jB (by have:=qB.fl;omega)) ?_;rintro _ w41 ⟨rfl,A37,c38,aox,aki,pE⟩;refine ⟨_,rfl,?_⟩;refine aJ 2 ?_;refine zN 6 ?_;refine vv (aj rfl rfl (ay Tryz.underlying3 rfl (St.cl 0 pE rfl ai6))) ?_;refine vv (v:=iV ((m.calls+1:Nat):Int)) gD ?_;refine zN 3 ?_;refine jw 0 pE lH ?_ (hs:=by exact aq8);intro w43 Fj;refine zQ ?_;refine bT (l':=[]) trivial (iw (bg (rs:=[]) (vs:=[]) rfl trivial ?_));rw [ae3 (by assumption) hqd];subst aki;have oH:=Fj.aS [2];have nI:=oH.dW [6,6,3,3,6,6,6];rw [<-qA] at nI;exact ⟨rfl,Wd.dM (X':=X) (z':=z) (Ls:=[]) (fA:=A37) (fc:=c38) (fx:=R.fx++[(⟨Qr a.nd q a.op m.calls,none,0⟩:LX)]) (sA:=R.sA) (sc:=R.sc) (tA:=R.tA) (tc:=R.tc) hkn bY hrr G hn nI NG.more (oh (iU rfl)) (aI hX).symm (by rw [List.map_append,G.fly];rfl) mI⟩
 refine zN 7 ?_;by_cases h47:a.kd=3
 ·refine zN 5 ?_;have vH:St B w0 w2 [.blk b1 #[iV a.kd,iV a.nd,iV a.qu,iV a.at_,iV a.kp,iV a.ek,iV a.ep,iV a.ei,iV a.eb,iV a.eh,iV a.en] 57]:=S3.sub (List.Sublist.cons_cons _ (List.nil_sublist _));have Vb:=S3.drew;have tV:=vH.drew;refine aF 10 tV [] ?_;refine aJ 5 ?_;refine ak (v:=iV ((n:Nat):Int)) 6 rfl tV (λ_ akk=>(Bz hnd (aj rfl rfl (ay Tryz.underlying3 rfl (St.cl 0 akk rfl rfl))))) ?_;refine aW 4 ?_;refine iC (i:=4) rfl rfl (v:= .slice (aD ab ao) 5 R.nc) (wn rfl) rfl rfl (aj rfl rfl (ay Tryz.underlying72 rfl (St.cl 4 Vb rfl zS))) ?_;refine bZ ?_;refine ak 7 rfl tV (λ_ _=>jd n) ?_;refine aW 8 ?_;refine iC (i:=8) rfl rfl (v:=pV kn 0) (wn rfl) rfl rfl (aj rfl rfl (ay Tryz.underlying80 rfl (hkn▸vM harr hn Vb (memT 8 rfl hL)))) ?_;refine bZ ?_;refine aW 9 ?_;have pW:=Vb.dW [7,7,7,7,7,7,7];have Bj:=pW;rw [<-qA] at Bj;have axC:=Wd.dM (m:=m) (m':=m) (H:=H) (H':=H) (fs:=(.blk b1 #[iV a.kd,iV a.nd,iV a.qu,iV a.at_,iV a.kp,iV a.ek,iV a.ep,iV a.ei,iV a.eb,iV a.eh,iV a.en] 57)::fs) (X':=X) (z':=z) (Ls:=[]) (fA:=R.fA) (fc:=R.fc) (fx:=R.fx) (sA:=R.sA) (sc:=R.sc) (tA:=R.tA) (tc:=R.tc) (rr:=(.blk b1 #[iV a.kd,iV a.nd,iV a.qu,iV a.at_,iV a.kp,iV a.ek,iV a.ep,iV a.ei,iV a.eb,iV a.eh,iV a.en] 57)::rr) hkn bY (by rw [<-hrr]<;>rfl) G hn Bj NG.more (λu hu=> .inl hu) (aI hX).symm G.fly.symm mI;refine iO 9 rfl asW (Xz hn hkn bY hu (by have:=qB.fi hn;omega) (by have:=qB.aU;have:=qB.il hn;omega) (by have:=qB.turn n hn;omega) axC (qB.kY n hn).nC (λl hl=>ED (qB.mP n hn l hl)) (λp h=>(qB.kY n hn).fit h)) ?_;rintro _ w61 ⟨rfl,apy⟩;refine ⟨_,rfl,?_⟩;have Jt:=Wd.wP (gs:=[.blk b1 #[iV a.kd,iV a.nd,iV a.qu,iV a.at_,iV a.kp,iV a.ek,iV a.ep,iV a.ei,iV a.eb,iV a.eh,iV a.en] 57]) apy;refine aJ 2 ?_;refine bT (l':=[]) trivial (iw (bg (rs:=[]) (vs:=[]) rfl trivial ?_));rw [ae4 (by assumption) hnd];exact ⟨rfl,(Wd.less (gs:=[.blk b1 #[iV a.kd,iV a.nd,iV a.qu,iV a.at_,iV a.kp,iV a.ek,iV a.ep,iV a.ei,iV a.eb,iV a.eh,iV a.en] 57]) apy)⟩
 refine zN 8 ?_;by_cases h63:a.kd=4
 ·refine zN 11 ?_;refine vv (v:=iV ((a.at_.toNat:Nat):Int)) (Bz ak2 (aj rfl rfl (ay Tryz.underlying3 rfl (St.cl 0 S3 rfl rfl)))) ?_;refine zN 6 ?_;have S64:=S3.dW [7,7,7,7,7,7,7];have Gd:=S64;rw [<-qA] at Gd;have afR:=Wd.dM (m:=m) (m':=m) (H:=H) (H':=H) (fs:=(.blk b1 #[iV a.kd,iV a.nd,iV a.qu,iV a.at_,iV a.kp,iV a.ek,iV a.ep,iV a.ei,iV a.eb,iV a.eh,iV a.en] 57)::fs) (X':=X) (z':=z) (Ls:=[]) (fA:=R.fA) (fc:=R.fc) (fx:=R.fx) (sA:=R.sA) (sc:=R.sc) (tA:=R.tA) (tc:=R.tc) (rr:=(.blk b1 #[iV a.kd,iV a.nd,iV a.qu,iV a.at_,iV a.kp,iV a.ek,iV a.ep,iV a.ei,iV a.eb,iV a.eh,iV a.en] 57)::rr) hkn bY (by rw [<-hrr]<;>rfl) G hn Gd NG.more (λu hu=> .inl hu) (aI hX).symm G.fly.symm mI;refine dH ajF (Dv hn hkn bY hu (by have:=qB.fl;omega) (by have:=qB.bL;omega) (λj hj=>by have:=qB.il hj;omega) afR (λl hl=>(qB.vJ l hl).tgt)) ?_;rintro _ w68 ⟨rfl,aaV⟩;refine ⟨_,rfl,?_⟩;have vI:=Wd.wP (gs:=[.blk b1 #[iV a.kd,iV a.nd,iV a.qu,iV a.at_,iV a.kp,iV a.ek,iV a.ep,iV a.ei,iV a.eb,iV a.eh,iV a.en] 57]) aaV;refine zQ ?_;refine bT (l':=[]) trivial (iw (bg (rs:=[]) (vs:=[]) rfl trivial ?_));rw [aio (by assumption)];exact ⟨rfl,(Wd.less (gs:=[.blk b1 #[iV a.kd,iV a.nd,iV a.qu,iV a.at_,iV a.kp,iV a.ek,iV a.ep,iV a.ei,iV a.eb,iV a.eh,iV a.en] 57]) aaV)⟩
 refine zN 7 ?_;by_cases h70:a.kd=5
 ·refine zN 11 ?_;refine vv (v:=iV ((a.at_.toNat:Nat):Int)) (Bz ak2 (aj rfl rfl (ay Tryz.underlying3 rfl (St.cl 0 S3 rfl rfl)))) ?_;refine zN 6 ?_;have rG:=S3.dW [7,7,7,7,7,7,7];have tT:=rG;rw [<-qA] at tT;have axD:=Wd.dM (m:=m) (m':=m) (H:=H) (H':=H) (fs:=(.blk b1 #[iV a.kd,iV a.nd,iV a.qu,iV a.at_,iV a.kp,iV a.ek,iV a.ep,iV a.ei,iV a.eb,iV a.eh,iV a.en] 57)::fs) (X':=X) (z':=z) (Ls:=[]) (fA:=R.fA) (fc:=R.fc) (fx:=R.fx) (sA:=R.sA) (sc:=R.sc) (tA:=R.tA) (tc:=R.tc) (rr:=(.blk b1 #[iV a.kd,iV a.nd,iV a.qu,iV a.at_,iV a.kp,iV a.ek,iV a.ep,iV a.ei,iV a.eb,iV a.eh,iV a.en] 57)::rr) hkn bY (by rw [<-hrr]<;>rfl) G hn tT NG.more (λu hu=> .inl hu) (aI hX).symm G.fly.symm mI;refine dH ajF (Dv hn hkn bY hu (by have:=qB.fl;omega) (by have:=qB.bL;omega) (λj hj=>by have:=qB.il hj;omega) axD (λl hl=>(qB.vJ l hl).tgt)) ?_;rintro _ w75 ⟨rfl,apz⟩;refine ⟨_,rfl,?_⟩;have Jm:=Wd.wP (gs:=[.blk b1 #[iV a.kd,iV a.nd,iV a.qu,iV a.at_,iV a.kp,iV a.ek,iV a.ep,iV a.ei,iV a.eb,iV a.eh,iV a.en] 57]) apz;refine zQ ?_;refine bT (l':=[]) trivial (iw (bg (rs:=[]) (vs:=[]) rfl trivial ?_));rw [aip (by assumption)];exact ⟨rfl,(Wd.less (gs:=[.blk b1 #[iV a.kd,iV a.nd,iV a.qu,iV a.at_,iV a.kp,iV a.ek,iV a.ep,iV a.ei,iV a.eb,iV a.eh,iV a.en] 57]) apz)⟩
 refine zN 6 ?_;by_cases h77:a.kd=6
 ·refine zN 8 ?_;refine vv (v:=iV ((a.at_.toNat:Nat):Int)) (Bz ak2 (aj rfl rfl (ay Tryz.underlying3 rfl (St.cl 0 S3 rfl rfl)))) ?_;refine zN 6 ?_;have Fv:=S3.dW [7,7,7,7,7,7,7];have zA:=Fv;rw [<-qA] at zA;have axE:=Wd.dM (m:=m) (m':=m) (H:=H) (H':=H) (fs:=(.blk b1 #[iV a.kd,iV a.nd,iV a.qu,iV a.at_,iV a.kp,iV a.ek,iV a.ep,iV a.ei,iV a.eb,iV a.eh,iV a.en] 57)::fs) (X':=X) (z':=z) (Ls:=[]) (fA:=R.fA) (fc:=R.fc) (fx:=R.fx) (sA:=R.sA) (sc:=R.sc) (tA:=R.tA) (tc:=R.tc) (rr:=(.blk b1 #[iV a.kd,iV a.nd,iV a.qu,iV a.at_,iV a.kp,iV a.ek,iV a.ep,iV a.ei,iV a.eb,iV a.eh,iV a.en] 57)::rr) hkn bY (by rw [<-hrr]<;>rfl) G hn zA NG.more (λu hu=> .inl hu) (aI hX).symm G.fly.symm mI;refine dH ajF (Dv hn hkn bY hu (by have:=qB.fl;omega) (by have:=qB.bL;omega) (λj hj=>by have:=qB.il hj;omega) axE (λl hl=>(qB.vJ l hl).tgt)) ?_;rintro _ w82 ⟨rfl,apA⟩;refine ⟨_,rfl,?_⟩;have Bg:=Wd.wP (gs:=[.blk b1 #[iV a.kd,iV a.nd,iV a.qu,iV a.at_,iV a.kp,iV a.ek,iV a.ep,iV a.ei,iV a.eb,iV a.eh,iV a.en] 57]) apA;refine zQ ?_;refine bT (l':=[]) trivial (iw (bg (rs:=[]) (vs:=[]) rfl trivial ?_));rw [aiq (by assumption)];exact ⟨rfl,(Wd.less (gs:=[.blk b1 #[iV a.kd,iV a.nd,iV a.qu,iV a.at_,iV a.kp,iV a.ek,iV a.ep,iV a.ei,iV a.eb,iV a.eh,iV a.en] 57]) apA)⟩
 refine zN 7 ?_;by_cases h84:a.kd=7
 ·refine zN 10 ?_;refine vv (aj rfl rfl (ay Tryz.underlying73 rfl (St.cl 4 S3 rfl Rk))) ?_;refine zN 8 ?_;refine jw 4 S3 Cc ?_ (hs:=by exact akf);intro w85 Bl;refine zN 10 ?_;have Gj:=Bl.aS [0];have Jv:=Gj.nil 105 23;have Jo:=((((((((Jv.bring 5 rfl).bring 7 rfl).bring 7 rfl).bring 3 rfl).bring 7 rfl).bring 7 rfl).bring 7 rfl).bring 7 rfl);rw [<-qA] at Jo;obtain ⟨m1,hm1⟩: ∃ k,k=({ m with fly:=[] }:Cl):=⟨_,rfl⟩;have HW1:Wd K B w0 w85 ((oL R.fA R.fx R.fc)::fs) m1 (R.fx++H):=by
   rw [hm1];exact Wd.dM (m:=m) (H:=H) (fs:=(oL R.fA R.fx R.fc)::fs) (X':=X) (z':=z) (Ls:=[]) (fA:=none) (fc:=0) (fx:=[]) (sA:=R.sA) (sc:=R.sc) (tA:=R.tA) (tc:=R.tc) (rr:=(oL R.fA R.fx R.fc)::rr) hkn bY (by rw [<-hrr];rfl) G hn Jo NG.more (λu hu=>by simp at hu) (aI hX).symm rfl (λu hu=>(List.mem_append.1 hu).elim (λh=> .inr ((G.flo u h).mono λf hf=>List.mem_append_left _ hf)) .inl)
  have hB0:=ae0 qB;rw [<-hm1] at hB0;refine dN (X:=Nat×Cl) (λxv=>[(0,pV kw 0),(90,.slice R.fA R.fx.length R.fc),(91,iV ((R.fx.length:Nat):Int)),(92,iV ((xv.1:Nat):Int))]) (λxv wr=>(Wd K B w0 wr ((oL R.fA R.fx R.fc)::fs) xv.2 (R.fx.drop xv.1++H))/\(m.fly.foldl Cl.come m1=(m.fly.drop xv.1).foldl Cl.come xv.2)/\(xv.1<=R.fx.length)/\(fK xv.2 (4*k+xv.1) (500000*k) (500000*k+xv.1) k)/\St B w0 wr [.own 105 23 (.slice R.fA R.fx.length R.fc) R.fx.length ((R.fx).flatMap LX.cells)]) (λxv=>R.fx.length-xv.1) (0,m1) ?_ ?_ ?_
  ·exact ⟨HW1,rfl,Nat.zero_le _,hB0,Wd.wP (gs:=[.own 105 23 (.slice R.fA R.fx.length R.fc) R.fx.length ((R.fx).flatMap LX.cells)]) HW1⟩
  ·exact ⟨rfl,rfl,rfl,rfl,trivial⟩
  rintro ⟨k2,mm⟩ w90 ⟨ak3,ak4,axF,abp,Mt⟩
  try dsimp only at ak3 ak4 axF abp Mt
  refine bC (l':=[(0,pV kw 0),(90,.slice R.fA R.fx.length R.fc),(91,iV ((R.fx.length:Nat):Int)),(92,iV ((k2:Nat):Int))]) ⟨rfl,rfl,rfl,rfl,trivial⟩ ?_;obtain ⟨R3,G3,U7⟩:=ak3.open hn;have SS:=G3.kY n hn;obtain ⟨X3,BF⟩: ∃ X,mm.ah n=X:=⟨_,rfl⟩;obtain ⟨z3,hz3⟩: ∃ z,R3.nx n=z:=⟨_,rfl⟩;rw [BF,hz3] at U7 SS;obtain ⟨YU,Jd⟩: ∃ r,gq K R3 mm fs n=r:=⟨_,rfl⟩;have zC:St B w0 w90 ((bN kn n X3.up z3.tA X3.data z3.tc X3.syn z3.bb X3.hints X3.sure z3.iA z3.ix z3.ic z3.pv X3.turn)::(oB z3.bb z3.bx)::(fL z3.iA z3.ix z3.ic)::(bW kw (.slice R3.nA 5 R3.nc) mm.off R3.fA R3.fx R3.fc mm.shown R3.sA mm.aU R3.sc R3.tA mm.bL R3.tc mm.calls)::(oL R3.fA R3.fx R3.fc)::(oS R3.sA mm.aU R3.sc)::(oT R3.tA mm.bL R3.tc)::(oL R.fA R.fx R.fc)::YU):=by rw [<-Jd];subst hkn;subst bY;exact U7
  clear U7;refine zN 2 ?_;by_cases h97:((k2:Nat):Int)< ((R.fx.length:Nat):Int)
  ·refine zN 10 ?_;obtain ⟨x,hx⟩: ∃ x,R.fx[k2]? =some x:=⟨_,List.getElem?_eq_getElem (by omega)⟩;have hxf:m.fly[k2]? =some x.l:=by rw [<-G.fly,List.getElem?_map,hx];rfl
   have hxb:=qB.vJ x.l (List.mem_of_getElem? hxf);refine zQ ?_;obtain ⟨fb,fo,hfA⟩:=rd_some (St.ord 7 zC rfl) (by omega);refine vv (v:=pV fb (fo+k2*23)) (aO rfl rfl rfl (dD k2 hfA Tryz.underlying73 xD (by omega) (by omega))) ?_;refine vv (v:= .agg (LX.row x)) (aj rfl rfl (aA (cs:=LX.cells x) Tryz.underlying105 rfl xD rfl (λj u hu=>by rw [Nat.add_assoc];exact Jb (St.ord 7 zC rfl) hfA (aZ (enc:=LX.cells) (sz:=23) (k:=k2) (λ_=>rfl) hx hu)))) ?_;refine fF zC abX ?_;intro b98 w99 rY;refine stA 0 rY xD ?_ (h1:=DY _);intro anZ tq;refine zN 5 ?_;have qK:=tq.aS [0];have ar9:=Wd.dM (m:=mm) (m':=mm) (H:=R.fx.drop k2++H) (H':=x::(R.fx.drop (k2+1)++H)) (fs:=(oL R.fA R.fx R.fc)::fs) (X':=X3) (z':=z3) (Ls:=[]) (fA:=R3.fA) (fc:=R3.fc) (fx:=R3.fx) (sA:=R3.sA) (sc:=R3.sc) (tA:=R3.tA) (tc:=R3.tc) (rr:=(oL R.fA R.fx R.fc)::YU) hkn bY (by rw [<-Jd];rfl) G3 hn ((((((((qK.bring 7 rfl).bring 7 rfl).bring 7 rfl).bring 7 rfl).bring 7 rfl).bring 7 rfl).bring 7 rfl).bring 7 rfl) SS.more (λu hu=> .inl hu) (aI BF).symm G3.fly.symm (by rw [drop_cons hx];exact mI);obtain ⟨jj,hjj,htt⟩:=hxb.tgt;refine dH ajG (Du (m:=mm) (x:=x) hjj rfl bY hu (by have:=(abp).fl;omega) (by have:=(abp).bL;omega) (by have:=(abp).il hjj;omega) ar9 htt) ?_;rintro _ aaj ⟨rfl,ace⟩;refine ⟨_,rfl,?_⟩;obtain ⟨mc,hmc⟩: ∃ k,k=mm.come x.l:=⟨_,rfl⟩;have yC:=Wd.wP (gs:=[.own 105 23 (.slice R.fA R.fx.length R.fc) R.fx.length ((R.fx).flatMap LX.cells)]) ace;refine zN 4 ?_;refine vv (v:=iV ((k2+1:Nat):Int)) gD ?_;refine zN 2 ?_;refine aN (k2+1,mc) ?_ ⟨rfl,rfl,rfl,rfl,trivial⟩ (by first | omega | (dsimp only;omega));exact ⟨(by dsimp only;rw [hmc];exact ace),(by dsimp only;rw [ak4,ae1 hxf,<-hmc]),(by dsimp only;omega),(by dsimp only;rw [hmc];exact (Gv abp hxb).mono (by omega) (Nat.le_refl _) (by omega) (Nat.le_refl _)),(Wd.wP (gs:=[.own 105 23 (.slice R.fA R.fx.length R.fc) R.fx.length ((R.fx).flatMap LX.cells)]) (hmc▸ace))⟩
  refine zN 11 ?_;have qI:m.act a=mm:=by rw [air (by assumption)];show m.fly.foldl Cl.come { m with fly:=[] }=mm;rw [<-hm1,ak4,List.drop_eq_nil_of_le (by omega)];rfl
  rw [qI];have axG:R.fx.length<=k2:=by omega
  exact ⟨rfl,Wd.less (gs:=[.own 105 23 (.slice R.fA R.fx.length R.fc) R.fx.length ((R.fx).flatMap LX.cells)]) (by have h9:=ak3;rw [List.drop_eq_nil_of_le axG] at h9;exact h9)⟩
 refine zN 7 ?_;by_cases akJ:a.kd=8
 ·refine zN 6 ?_;refine fC S3 mixed (by kernel_rfl) ?_;refine zN 3 ?_;refine uv (v:= .slice (aD ab ao) 5 R.nc) (λ_ asa=>(aj rfl rfl (ay Tryz.underlying72 rfl (St.cl 4 asa rfl zS)))) ?_;refine zQ ?_;refine uv (v:=iV ((n:Nat):Int)) (λ_ asb=>(Bz hnd (aj rfl rfl (ay Tryz.underlying3 rfl (St.cl 0 asb rfl rfl))))) ?_;refine uv (λ_ _=>jd n) ?_;refine uv (v:=pV kn 0) (λ_ asc=>(aj rfl rfl (ay Tryz.underlying80 rfl (hkn▸vM harr hn asc (memT 8 rfl hL))))) ?_;refine zQ ?_;refine eT λafV qL=>?_;refine zN 9 ?_
  cases ajs:(X.up)
  ·refine bC (l':=[(3,pV b1 0),(7,pV kn 0),(113,.bool false)]) ⟨rfl,rfl,rfl,trivial⟩ (lG rfl (qD (iw (bg (rs:=[]) (vs:=[]) rfl trivial ?_))));have zP:=qL.aS [0];have zL:=zP;rw [<-qA] at zL;have ase:=Wd.dM (m:=m) (m':=m) (H:=H) (H':=H) (fs:=fs) (X':=X) (z':=z) (Ls:=[]) (fA:=R.fA) (fc:=R.fc) (fx:=R.fx) (sA:=R.sA) (sc:=R.sc) (tA:=R.tA) (tc:=R.tc) (rr:=rr) hkn bY (by rw [<-hrr]<;>rfl) G hn zL NG.more (λu hu=> .inl hu) (aI hX).symm G.fly.symm mI;rw [Oz (by assumption) hnd,abo (by rw [hX];assumption)];exact ⟨rfl,ase⟩
  refine bC (l':=[(3,pV b1 0),(7,pV kn 0),(113,.bool true)]) ⟨rfl,rfl,rfl,trivial⟩ (lF rfl (aK ?_));have Om:=qL.drew;refine aF 14 Om [1] ?_;refine aJ 6 ?_;refine aW 4 ?_;refine iC (i:=4) rfl rfl (v:= .agg #[.slice z.tA X.data.length z.tc,iV X.syn]) (wn rfl) rfl rfl (aj rfl rfl (aA (cs:=[.slice z.tA X.data.length z.tc,iV X.syn]) Tryz.underlying83 rfl fD rfl (St.rg 1 Om rfl (rP)))) ?_;refine bZ ?_;refine aW 7 ?_;refine iO 7 rfl asX (AB (Tj z.tA X.data.length z.tc X.data X.syn a.kp _ (NG.xO.rd Om (memT 8 rfl hL)))) ?_;rintro _ Vw ⟨af3,ak5,rfl,axH⟩;refine ⟨_,rfl,?_⟩;have uF:=Om.ext axH rfl;refine aJ 6 ?_;refine aW 13 ?_;refine snz (row':=dJ n X.up (.slice af3 ((mE X.data X.syn a.kp).1.length) ak5) ((mE X.data X.syn a.kp).2.1) (.slice (aD z.bb 0) 4 4) X.hints X.sure (.slice z.iA z.ix.length z.ic) (z.pv) X.turn) 13 rfl 2 uF fD ?_;intro ao3 IJ;refine aJ 2 ?_;refine zN 6 ?_;refine jw (row':=dJ n false (.slice af3 ((mE X.data X.syn a.kp).1.length) ak5) ((mE X.data X.syn a.kp).2.1) (.slice (aD z.bb 0) 4 4) X.hints X.sure (.slice z.iA z.ix.length z.ic) (z.pv) X.turn) 2 IJ Iq ?_;intro axI V3;refine zN 4 ?_;have Ll:=V3.dW [2];refine dH QV (mY Ll hu) ?_;rintro _ an2 ⟨rfl,asf,Cv⟩;refine ⟨_,rfl,?_⟩;have zO:=Cv.aS [5,4,3];refine zQ ?_;refine bT (l':=[]) trivial (iw (bg (rs:=[]) (vs:=[]) rfl trivial ?_));rw [Oz (by assumption) hnd,ae5 (by rw [hX];assumption)];have aaR:=zO.Cg 105 23;have NT:=aaR.dW [7,7,7,7,4,6,6];rw [<-qA] at NT;exact ⟨rfl,Wd.dM (X':=X.crashed a.kp) (z':={ bb:=asf,tA:=af3,tc:=ak5,bx:=sK,iA:=none,ic:=0,ix:=[],pv:= .nilFunc }) (Ls:=[.cB 1 af3 ((mE X.data X.syn a.kp).1.length) (byteCells ((mE X.data X.syn a.kp).1))]) (fA:=R.fA) (fc:=R.fc) (fx:=R.fx) (sA:=R.sA) (sc:=R.sc) (tA:=R.tA) (tc:=R.tc) hkn bY hrr G hn NT ⟨rfl,Oy,Ro.cB (List.mem_append_right _ (List.mem_singleton.2 rfl)),rfl,λy hy=>(by cases hy),rfl⟩ (λu hu=> .inl hu) (by rw [hX];rfl) G.fly.symm mI⟩
 refine zN 7 ?_;by_cases aAP:a.kd=9
 ·refine zN 5 ?_;have akI:St B w0 w2 [.blk b1 #[iV a.kd,iV a.nd,iV a.qu,iV a.at_,iV a.kp,iV a.ek,iV a.ep,iV a.ei,iV a.eb,iV a.eh,iV a.en] 57]:=S3.sub (List.Sublist.cons_cons _ (List.nil_sublist _));have Vb:=S3.drew;have vC:=akI.drew;refine aF 10 vC [] ?_;refine aJ 5 ?_;refine ak (v:=iV ((n:Nat):Int)) 6 rfl vC (λ_ ab1=>(Bz hnd (aj rfl rfl (ay Tryz.underlying3 rfl (St.cl 0 ab1 rfl rfl))))) ?_;refine aW 4 ?_;refine iC (i:=4) rfl rfl (v:= .slice (aD ab ao) 5 R.nc) (wn rfl) rfl rfl (aj rfl rfl (ay Tryz.underlying72 rfl (St.cl 4 Vb rfl zS))) ?_;refine bZ ?_;refine ak 7 rfl vC (λ_ _=>jd n) ?_;refine aW 8 ?_;refine iC (i:=8) rfl rfl (v:=pV kn 0) (wn rfl) rfl rfl (aj rfl rfl (ay Tryz.underlying80 rfl (hkn▸vM harr hn Vb (memT 8 rfl hL)))) ?_;refine bZ ?_;refine aW 9 ?_;have IU:=Vb.dW [7,7,7,7,7,7,7];have VH:=IU;rw [<-qA] at VH;have V4:=Wd.dM (m:=m) (m':=m) (H:=H) (H':=H) (fs:=(.blk b1 #[iV a.kd,iV a.nd,iV a.qu,iV a.at_,iV a.kp,iV a.ek,iV a.ep,iV a.ei,iV a.eb,iV a.eh,iV a.en] 57)::fs) (X':=X) (z':=z) (Ls:=[]) (fA:=R.fA) (fc:=R.fc) (fx:=R.fx) (sA:=R.sA) (sc:=R.sc) (tA:=R.tA) (tc:=R.tc) (rr:=(.blk b1 #[iV a.kd,iV a.nd,iV a.qu,iV a.at_,iV a.kp,iV a.ek,iV a.ep,iV a.ei,iV a.eb,iV a.eh,iV a.en] 57)::rr) hkn bY (by rw [<-hrr]<;>rfl) G hn VH NG.more (λu hu=> .inl hu) (aI hX).symm G.fly.symm mI;refine iO 9 rfl asY (Un hn hkn bY hu (by have:=qB.fl;omega) (by have:=qB.aU;omega) V4 (qB.kY n hn).Mr.1 (qB.kY n hn).Mr.2.1 (qB.kY n hn).Mr.2.2.1 (qB.kY n hn).Mr.2.2.2 hsh) ?_;rintro _ auk ⟨rfl,ajt⟩;refine ⟨_,rfl,?_⟩;have anY:=Wd.wP (gs:=[.blk b1 #[iV a.kd,iV a.nd,iV a.qu,iV a.at_,iV a.kp,iV a.ek,iV a.ep,iV a.ei,iV a.eb,iV a.eh,iV a.en] 57]) ajt;refine aJ 2 ?_;refine bT (l':=[]) trivial (iw (bg (rs:=[]) (vs:=[]) rfl trivial ?_));rw [abm (by assumption) hnd];exact ⟨rfl,(Wd.less (gs:=[.blk b1 #[iV a.kd,iV a.nd,iV a.qu,iV a.at_,iV a.kp,iV a.ek,iV a.ep,iV a.ei,iV a.eb,iV a.eh,iV a.en] 57]) ajt)⟩
 refine zN 8 ?_;refine vv (v:=iV ((q:Nat):Int)) (Bz hqd (aj rfl rfl (ay Tryz.underlying3 rfl (St.cl 0 S3 rfl rfl)))) ?_;refine zN 2 ?_;obtain ⟨PW,vN⟩: ∃ r,bq m.off q=r:=⟨_,rfl⟩;obtain ⟨nn,hnn,hwn⟩:=ain vN;have ak6:=S3.dW [7,7,7,7,7,7,7];have Vx:=ak6;rw [<-qA] at Vx;have asg:=Wd.dM (m:=m) (m':=m) (H:=H) (H':=H) (fs:=(.blk b1 #[iV a.kd,iV a.nd,iV a.qu,iV a.at_,iV a.kp,iV a.ek,iV a.ep,iV a.ei,iV a.eb,iV a.eh,iV a.en] 57)::fs) (X':=X) (z':=z) (Ls:=[]) (fA:=R.fA) (fc:=R.fc) (fx:=R.fx) (sA:=R.sA) (sc:=R.sc) (tA:=R.tA) (tc:=R.tc) (rr:=(.blk b1 #[iV a.kd,iV a.nd,iV a.qu,iV a.at_,iV a.kp,iV a.ek,iV a.ep,iV a.ei,iV a.eb,iV a.eh,iV a.en] 57)::rr) hkn bY (by rw [<-hrr]<;>rfl) G hn Vx NG.more (λu hu=> .inl hu) (aI hX).symm G.fly.symm mI;refine dH asZ (XB hnn rfl bY hu (by have:=qB.fl;omega) (by have:=qB.aU;omega) hq asg (qB.kY nn hnn).nC vN hwn) ?_;rintro _ aks ⟨rfl,aju⟩;refine ⟨_,rfl,?_⟩;have VI:=Wd.wP (gs:=[.blk b1 #[iV a.kd,iV a.nd,iV a.qu,iV a.at_,iV a.kp,iV a.ek,iV a.ep,iV a.ei,iV a.eb,iV a.eh,iV a.en] 57]) aju;refine zQ ?_;refine bT (l':=[]) trivial (iw (bg (rs:=[]) (vs:=[]) rfl trivial ?_));rw [abn (by assumption) (by assumption) (by assumption) (by assumption) (by assumption) (by assumption) (by assumption) (by assumption) (by assumption) hqd];exact ⟨rfl,(Wd.less (gs:=[.blk b1 #[iV a.kd,iV a.nd,iV a.qu,iV a.at_,iV a.kp,iV a.ek,iV a.ep,iV a.ei,iV a.eb,iV a.eh,iV a.en] 57]) aju)⟩
theorem St.jJ {B:Nat} {w0 w:World} {fs:List Fact} {b n s:Nat} {row:Array Value} {t:TypeId} {xs:List Value} (i:Nat) (S:St B w0 w fs) (hi:fs[i]? =some (.blk b row t)) (hx:row.toList=xs) (hl:xs.length=n*s):St B w0 w (fs.set i (.cB s (some ⟨b,0,none⟩) n xs)):=
 St.turn i S hi S.low (Nat.le_refl _) (λ_ _ _=>rfl) ⟨St.lY i S hi hx hl,λa h=>by cases h;exact ⟨St.ge i S hi,St.lt i S hi⟩⟩ (λk hk=> .inl hk)
def dw (g:Nat) (p:Nat×Int):List Value:=[.pointer (some ⟨g,p.1,none⟩),.int .i64 p.2]
def bU (kd ek:Int):ByteArray:=
 if kd=1 then ⟨#[109,97,107,101]⟩ else if kd=10 then ⟨#[109,111,118,101]⟩ else if kd=3 then ⟨#[115,116,101,112]⟩ else if kd=9 then ⟨#[115,116,97,114,116]⟩ else if kd=8 then ⟨#[99,114,97,115,104]⟩
 else if kd=4 then ⟨#[99,97,114,114,121]⟩ else if kd=5 then ⟨#[108,111,115,101]⟩ else if kd=6 then ⟨#[100,111,117,98,108,101]⟩ else if kd=7 then ⟨#[97,108,108]⟩
 else if kd=2 then (if ek=1 then ⟨#[112,117,98,108,105,115,104]⟩ else if ek=2 then ⟨#[114,101,99,101,105,118,101]⟩ else if ek=3 then ⟨#[97,99,107]⟩ else ⟨#[]⟩) else ⟨#[]⟩
def ae7 (w:World) (g:Nat) (u:ByteArray) (r:Option (List (Nat×Int))) (e:Ending) (w':World):Prop:=match r with
 | none=>e= .returned (.tuple #[.string u,.slice none 0 0,.bool false])/\Below w.heap.size w w'
 | some l=> ∃ A,e= .returned (.tuple #[.string u,.slice A l.length l.length,.bool true])/\St w.heap.size w w' [.cB 2 A l.length (l.flatMap (dw g))]
theorem Ac.ajv (x:Ac) {i:Nat} (h:i<11):x.cells.toArray[i]? =some (.int .i64 (x.get i)):=by rw [List.getElem?_toArray];exact x.cell h
theorem XE (g:Nat) (x:Ac) (w:World) (h:Rd w w.heap.size 11 (aD g 0) 1 x.cells):
    Calls Tryz.prog 23 #[pV g 0] w (ae7 w g (bU x.kd x.ek) (bS x.kd x.ek)):=by
 have S:=(St.start w).bV h;refine gu 111 Tryz.func23 ?_;refine cw [0] ?_;refine zN 8 ?_;have S1:=S.drew;refine Ip (C:=λw'=>St w.heap.size w w' [.rd 11 (aD g 0) 1 x.cells]) (n:=12) (listed:= #[false,false,false,false,false,false,false,false,false,false,false,false]) mixed rfl rfl ?_;refine aJ 3 ?_;refine ak (v:= .agg #[pV g 1,iV 4]) 3 rfl S1 (λ_ _=>gF) ?_;refine aJ 3 ?_;refine ak (v:= .agg #[pV g 2,iV 3]) 7 rfl S1 (λ_ _=>gF) ?_;refine gZ (n:=3) (r:=8) (s:=9) (by kernel_rfl) ?_ ?_
 ·refine kU 8 rfl S1 Fa ?_;intro b10 Jp mJ;refine bZ ?_;refine aW 9 ?_;refine kU 9 rfl mJ Fa ?_;intro b13 Jw gJ;refine bZ ?_;refine aW 10 ?_;refine sn 10 rfl 1 gJ tO ?_;intro w16 lS;refine bZ ?_;refine aW 11 ?_;refine sn 11 rfl 0 lS tO ?_;intro Nz l5;refine aJ 2 ?_;refine zN 6 ?_;refine vv (v:= .agg #[pV g 3,iV 1048576]) gF ?_;refine fF l5 Fa ?_;intro b20 DL iW;refine sa 0 iW tO ?_;intro Js jB;refine zN 8 ?_;refine vv (v:=iV x.kd) (aj rfl rfl (ay Tryz.underlying3 rfl (Rd.cl (j:=0) (St.rd 3 jB rfl) rfl))) ?_;refine zN 5 ?_;by_cases uG:x.kd=1
  ·refine zN 6 ?_;have lU:=jB.drew;refine aF 6 lU [] ?_;refine aJ 3 ?_;refine aW 2 ?_;refine jM (i:=2) rfl rfl (V:=λb=> .slice (aD b 0) 2 2) (row:= #[pV g 2,iV 3,pV g 1,iV 4]) (t:=96) lU (wn rfl) rfl rfl (aV (vs:=[(0,.agg #[pV g 2,iV 3]),(1,.agg #[pV g 1,iV 4])]) rfl ⟨rfl,rfl,rfl,rfl,trivial⟩ (by kernel_rfl)) ?_;intro b30 Yx mK;refine aJ 4 ?_;refine zN 5 ?_;rw [show bU x.kd x.ek=⟨#[109,97,107,101]⟩ from by simp [bU,uG]];have sO:=mK.aS [4,3,2,1];rw [show bS x.kd x.ek=some [(2,3),(1,4)] from by simp [bS,uG]];exact ⟨_,rfl,St.jJ (n:=2) (xs:=([(2,3),(1,4)]:List (Nat×Int)).flatMap (dw g)) 0 sO rfl rfl rfl⟩
  refine zN 7 ?_;by_cases zk:x.kd=10
  ·refine zN 6 ?_;have l6:=jB.drew;refine aF 6 l6 [] ?_;refine aJ 3 ?_;refine aW 2 ?_;refine jM (i:=2) rfl rfl (V:=λb=> .slice (aD b 0) 2 2) (row:= #[pV g 2,iV 3,pV g 1,iV 4]) (t:=96) l6 (wn rfl) rfl rfl (aV (vs:=[(0,.agg #[pV g 2,iV 3]),(1,.agg #[pV g 1,iV 4])]) rfl ⟨rfl,rfl,rfl,rfl,trivial⟩ (by kernel_rfl)) ?_;intro b41 UH qc;refine aJ 4 ?_;refine zN 5 ?_;rw [show bU x.kd x.ek=⟨#[109,111,118,101]⟩ from by simp [bU,uG,zk]];have nI:=qc.aS [4,3,2,1];rw [show bS x.kd x.ek=some [(2,3),(1,4)] from by simp [bS,uG,zk]];exact ⟨_,rfl,St.jJ (n:=2) (xs:=([(2,3),(1,4)]:List (Nat×Int)).flatMap (dw g)) 0 nI rfl rfl rfl⟩
  refine zN 7 ?_;by_cases h47:x.kd=3
  ·refine zN 6 ?_;have vH:=jB.drew;refine aF 5 vH [] ?_;refine aJ 2 ?_;refine aW 1 ?_;refine F9 1 rfl vH ?_;intro b51 w52 za;refine aJ 4 ?_;refine zN 5 ?_;rw [show bU x.kd x.ek=⟨#[115,116,101,112]⟩ from by simp [bU,uG,zk,h47]];have Fh:=za.aS [4,3,2,1];rw [show bS x.kd x.ek=some [(1,4)] from by simp [bS,uG,zk,h47]];exact ⟨_,rfl,St.jJ (n:=1) (xs:=([(1,4)]:List (Nat×Int)).flatMap (dw g)) 0 Fh rfl rfl rfl⟩
  refine zN 7 ?_;by_cases h57:x.kd=9
  ·refine zN 6 ?_;have Dc:=jB.drew;refine aF 5 Dc [] ?_;refine aJ 2 ?_;refine aW 1 ?_;refine F9 1 rfl Dc ?_;intro b61 Yt wE;refine aJ 4 ?_;refine zN 5 ?_;rw [show bU x.kd x.ek=⟨#[115,116,97,114,116]⟩ from by simp [bU,uG,zk,h47,h57]];have Gd:=wE.aS [4,3,2,1];rw [show bS x.kd x.ek=some [(1,4)] from by simp [bS,uG,zk,h47,h57]];exact ⟨_,rfl,St.jJ (n:=1) (xs:=([(1,4)]:List (Nat×Int)).flatMap (dw g)) 0 Gd rfl rfl rfl⟩
  refine zN 7 ?_;by_cases Bh:x.kd=8
  ·refine zN 6 ?_;have wJ:=jB.drew;refine aF 9 wJ [] ?_;refine aJ 4 ?_;refine ak (v:= .agg #[pV g 4,iV 100000]) 4 rfl wJ (λ_ _=>gF) ?_;refine bZ ?_;refine aW 5 ?_;refine jM (i:=5) rfl rfl (V:=λb=> .slice (aD b 0) 2 2) (row:= #[pV g 1,iV 4,pV g 4,iV 100000]) (t:=96) wJ (wn rfl) rfl rfl (aV (vs:=[(0,.agg #[pV g 1,iV 4]),(1,.agg #[pV g 4,iV 100000])]) rfl ⟨rfl,rfl,rfl,rfl,trivial⟩ (by kernel_rfl)) ?_;intro b75 w76 Da;refine aJ 4 ?_;refine zN 5 ?_;rw [show bU x.kd x.ek=⟨#[99,114,97,115,104]⟩ from by simp [bU,uG,zk,h47,h57,Bh]];have zA:=Da.aS [4,3,2,1];rw [show bS x.kd x.ek=some [(1,4),(4,100000)] from by simp [bS,uG,zk,h47,h57,Bh]];exact ⟨_,rfl,St.jJ (n:=2) (xs:=([(1,4),(4,100000)]:List (Nat×Int)).flatMap (dw g)) 0 zA rfl rfl rfl⟩
  refine zN 7 ?_;by_cases HY:x.kd=4
  ·refine zN 6 ?_;have S82:=jB.drew;refine aF 5 S82 [] ?_;refine aJ 2 ?_;refine aW 1 ?_;refine F9 1 rfl S82 ?_;intro b85 w86 Gj;refine aJ 4 ?_;refine zN 5 ?_;rw [show bU x.kd x.ek=⟨#[99,97,114,114,121]⟩ from by simp [bU,uG,zk,h47,h57,Bh,HY]];have Z7:=Gj.aS [4,3,2,1];rw [show bS x.kd x.ek=some [(3,1048576)] from by simp [bS,uG,zk,h47,h57,Bh,HY]];exact ⟨_,rfl,St.jJ (n:=1) (xs:=([(3,1048576)]:List (Nat×Int)).flatMap (dw g)) 0 Z7 rfl rfl rfl⟩
  refine zN 7 ?_;by_cases Fz:x.kd=5
  ·refine zN 6 ?_;have ze:=jB.drew;refine aF 5 ze [] ?_;refine aJ 2 ?_;refine aW 1 ?_;refine F9 1 rfl ze ?_;intro b95 w96 Dg;refine aJ 4 ?_;refine zN 5 ?_;rw [show bU x.kd x.ek=⟨#[108,111,115,101]⟩ from by simp [bU,uG,zk,h47,h57,Bh,HY,Fz]];have rY:=Dg.aS [4,3,2,1];rw [show bS x.kd x.ek=some [(3,1048576)] from by simp [bS,uG,zk,h47,h57,Bh,HY,Fz]];exact ⟨_,rfl,St.jJ (n:=1) (xs:=([(3,1048576)]:List (Nat×Int)).flatMap (dw g)) 0 rY rfl rfl rfl⟩
  refine zN 7 ?_;by_cases BH:x.kd=6
  ·refine zN 6 ?_;have tq:=jB.drew;refine aF 5 tq [] ?_;refine aJ 2 ?_;refine aW 1 ?_;refine F9 1 rfl tq ?_;intro aAQ aaj yC;refine aJ 4 ?_;refine zN 5 ?_;rw [show bU x.kd x.ek=⟨#[100,111,117,98,108,101]⟩ from by simp [bU,uG,zk,h47,h57,Bh,HY,Fz,BH]];have pK:=yC.aS [4,3,2,1];rw [show bS x.kd x.ek=some [(3,1048576)] from by simp [bS,uG,zk,h47,h57,Bh,HY,Fz,BH]];exact ⟨_,rfl,St.jJ (n:=1) (xs:=([(3,1048576)]:List (Nat×Int)).flatMap (dw g)) 0 pK rfl rfl rfl⟩
  refine zN 7 ?_;by_cases CQ:x.kd=7
  ·refine zN 16 ?_;rw [show bU x.kd x.ek=⟨#[97,108,108]⟩ from by simp [bU,uG,zk,h47,h57,Bh,HY,Fz,BH,CQ]];have vX:=jB.aS [3,2,1,0];rw [show bS x.kd x.ek=some [] from by simp [bS,uG,zk,h47,h57,Bh,HY,Fz,BH,CQ]];exact ⟨none,rfl,aG vX⟩
  refine zN 7 ?_;by_cases Je:x.kd=2
  ·refine zN 18 ?_;refine vv (v:=iV x.ek) (aj rfl rfl (ay Tryz.underlying3 rfl (Rd.cl (j:=5) (St.rd 3 jB rfl) rfl))) ?_;refine zN 5 ?_;by_cases Gx:x.ek=1
   ·refine zN 6 ?_;have og:=jB.drew;refine aF 18 og [] ?_;refine aJ 5 ?_;refine ak (v:= .agg #[pV g 6,iV 3]) 5 rfl og (λ_ _=>gF) ?_;refine aJ 3 ?_;refine ak (v:= .agg #[pV g 7,iV 1073741824]) 9 rfl og (λ_ _=>gF) ?_;refine aJ 3 ?_;refine ak (v:= .agg #[pV g 8,iV 1000000]) 13 rfl og (λ_ _=>gF) ?_;refine bZ ?_;refine aW 14 ?_;refine jM (i:=14) rfl rfl (V:=λb=> .slice (aD b 0) 5 5) (row:= #[pV g 1,iV 4,pV g 2,iV 3,pV g 6,iV 3,pV g 7,iV 1073741824,pV g 8,iV 1000000]) (t:=96) og (wn rfl) rfl rfl (aV (vs:=[(0,.agg #[pV g 1,iV 4]),(1,.agg #[pV g 2,iV 3]),(2,.agg #[pV g 6,iV 3]),(3,.agg #[pV g 7,iV 1073741824]),(4,.agg #[pV g 8,iV 1000000])]) rfl ⟨rfl,rfl,rfl,rfl,rfl,rfl,rfl,rfl,rfl,rfl,trivial⟩ (by kernel_rfl)) ?_;intro aAR av9 Rh;refine aJ 4 ?_;refine zN 6 ?_;rw [show bU x.kd x.ek=⟨#[112,117,98,108,105,115,104]⟩ from by simp [bU,uG,zk,h47,h57,Bh,HY,Fz,BH,CQ,Je,Gx]];have Bd:=Rh.aS [4,3,2,1];rw [show bS x.kd x.ek=some [(1,4),(2,3),(6,3),(7,1073741824),(8,1000000)] from by simp [bS,uG,zk,h47,h57,Bh,HY,Fz,BH,CQ,Je,Gx]];exact ⟨_,rfl,St.jJ (n:=5) (xs:=([(1,4),(2,3),(6,3),(7,1073741824),(8,1000000)]:List (Nat×Int)).flatMap (dw g)) 0 Bd rfl rfl rfl⟩
   refine zN 7 ?_;by_cases V5:x.ek=2
   ·refine zN 6 ?_;have Ep:=jB.drew;refine aF 6 Ep [] ?_;refine aJ 3 ?_;refine aW 2 ?_;refine jM (i:=2) rfl rfl (V:=λb=> .slice (aD b 0) 2 2) (row:= #[pV g 1,iV 4,pV g 2,iV 3]) (t:=96) Ep (wn rfl) rfl rfl (aV (vs:=[(0,.agg #[pV g 1,iV 4]),(1,.agg #[pV g 2,iV 3])]) rfl ⟨rfl,rfl,rfl,rfl,trivial⟩ (by kernel_rfl)) ?_;intro an1 axI V3;refine aJ 4 ?_;refine zN 6 ?_;rw [show bU x.kd x.ek=⟨#[114,101,99,101,105,118,101]⟩ from by simp [bU,uG,zk,h47,h57,Bh,HY,Fz,BH,CQ,Je,Gx,V5]];have Q0:=V3.aS [4,3,2,1];rw [show bS x.kd x.ek=some [(1,4),(2,3)] from by simp [bS,uG,zk,h47,h57,Bh,HY,Fz,BH,CQ,Je,Gx,V5]];exact ⟨_,rfl,St.jJ (n:=2) (xs:=([(1,4),(2,3)]:List (Nat×Int)).flatMap (dw g)) 0 Q0 rfl rfl rfl⟩
   refine zN 7 ?_;by_cases af4:x.ek=3
   ·refine zN 6 ?_;have zO:=jB.drew;refine aF 16 zO [] ?_;refine aJ 6 ?_;refine ak (v:= .agg #[pV g 9,iV 1048576]) 6 rfl zO (λ_ _=>gF) ?_;refine aJ 4 ?_;refine ak (v:= .agg #[pV g 10,iV 1073741824]) 11 rfl zO (λ_ _=>gF) ?_;refine bZ ?_;refine aW 12 ?_;refine jM (i:=12) rfl rfl (V:=λb=> .slice (aD b 0) 4 4) (row:= #[pV g 1,iV 4,pV g 2,iV 3,pV g 9,iV 1048576,pV g 10,iV 1073741824]) (t:=96) zO (wn rfl) rfl rfl (aV (vs:=[(0,.agg #[pV g 1,iV 4]),(1,.agg #[pV g 2,iV 3]),(2,.agg #[pV g 9,iV 1048576]),(3,.agg #[pV g 10,iV 1073741824])]) rfl ⟨rfl,rfl,rfl,rfl,rfl,rfl,rfl,rfl,trivial⟩ (by kernel_rfl)) ?_;intro aAS an5 yA;refine aJ 4 ?_;refine zN 6 ?_;rw [show bU x.kd x.ek=⟨#[97,99,107]⟩ from by simp [bU,uG,zk,h47,h57,Bh,HY,Fz,BH,CQ,Je,Gx,V5,af4]];have ak6:=yA.aS [4,3,2,1];rw [show bS x.kd x.ek=some [(1,4),(2,3),(9,1048576),(10,1073741824)] from by simp [bS,uG,zk,h47,h57,Bh,HY,Fz,BH,CQ,Je,Gx,V5,af4]];exact ⟨_,rfl,St.jJ (n:=4) (xs:=([(1,4),(2,3),(9,1048576),(10,1073741824)]:List (Nat×Int)).flatMap (dw g)) 0 ak6 rfl rfl rfl⟩
   refine zN 18 ?_;rw [show bU x.kd x.ek=⟨#[]⟩ from by simp [bU,uG,zk,h47,h57,Bh,HY,Fz,BH,CQ,Je,Gx,V5,af4]];rw [show bS x.kd x.ek=none from by simp [bS,uG,zk,h47,h57,Bh,HY,Fz,BH,CQ,Je,Gx,V5,af4]];exact ⟨rfl,jB.low⟩
  refine zN 17 ?_;rw [show bU x.kd x.ek=⟨#[]⟩ from by simp [bU,uG,zk,h47,h57,Bh,HY,Fz,BH,CQ,Je]];rw [show bS x.kd x.ek=none from by simp [bS,uG,zk,h47,h57,Bh,HY,Fz,BH,CQ,Je]];exact ⟨rfl,jB.low⟩
 refine kU 9 rfl S1 Fa ?_;intro aAT aAU aj6;refine bZ ?_;refine aW 8 ?_;refine kU 8 rfl aj6 Fa ?_;intro aAV aum Z0;refine bZ ?_;refine aW 10 ?_;refine sn 10 rfl 0 Z0 tO ?_;intro aAW aaW;refine bZ ?_;refine aW 11 ?_;refine sn 11 rfl 1 aaW tO ?_;intro awf Vz;refine aJ 2 ?_;refine zN 6 ?_;refine vv (v:= .agg #[pV g 3,iV 1048576]) gF ?_;refine fF Vz Fa ?_;intro aAX aAY aap;refine sa 0 aap tO ?_;intro axJ vD;refine zN 8 ?_;refine vv (v:=iV x.kd) (aj rfl rfl (ay Tryz.underlying3 rfl (Rd.cl (j:=0) (St.rd 3 vD rfl) rfl))) ?_;refine zN 5 ?_;by_cases nM:x.kd=1
 ·refine zN 6 ?_;have apB:=vD.drew;refine aF 6 apB [] ?_;refine aJ 3 ?_;refine aW 2 ?_;refine jM (i:=2) rfl rfl (V:=λb=> .slice (aD b 0) 2 2) (row:= #[pV g 2,iV 3,pV g 1,iV 4]) (t:=96) apB (wn rfl) rfl rfl (aV (vs:=[(0,.agg #[pV g 2,iV 3]),(1,.agg #[pV g 1,iV 4])]) rfl ⟨rfl,rfl,rfl,rfl,trivial⟩ (by kernel_rfl)) ?_;intro aAZ avB akN;refine aJ 4 ?_;refine zN 5 ?_;rw [show bU x.kd x.ek=⟨#[109,97,107,101]⟩ from by simp [bU,nM]];have Rn:=akN.aS [4,3,2,1];rw [show bS x.kd x.ek=some [(2,3),(1,4)] from by simp [bS,nM]];exact ⟨_,rfl,St.jJ (n:=2) (xs:=([(2,3),(1,4)]:List (Nat×Int)).flatMap (dw g)) 0 Rn rfl rfl rfl⟩
 refine zN 7 ?_;by_cases oO:x.kd=10
 ·refine zN 6 ?_;have apC:=vD.drew;refine aF 6 apC [] ?_;refine aJ 3 ?_;refine aW 2 ?_;refine jM (i:=2) rfl rfl (V:=λb=> .slice (aD b 0) 2 2) (row:= #[pV g 2,iV 3,pV g 1,iV 4]) (t:=96) apC (wn rfl) rfl rfl (aV (vs:=[(0,.agg #[pV g 2,iV 3]),(1,.agg #[pV g 1,iV 4])]) rfl ⟨rfl,rfl,rfl,rfl,trivial⟩ (by kernel_rfl)) ?_;intro aA0 aA1 axK;refine aJ 4 ?_;refine zN 5 ?_;rw [show bU x.kd x.ek=⟨#[109,111,118,101]⟩ from by simp [bU,nM,oO]];have axL:=axK.aS [4,3,2,1];rw [show bS x.kd x.ek=some [(2,3),(1,4)] from by simp [bS,nM,oO]];exact ⟨_,rfl,St.jJ (n:=2) (xs:=([(2,3),(1,4)]:List (Nat×Int)).flatMap (dw g)) 0 axL rfl rfl rfl⟩
 refine zN 7 ?_;by_cases qo:x.kd=3
 ·refine zN 6 ?_;have afY:=vD.drew;refine aF 5 afY [] ?_;refine aJ 2 ?_;refine aW 1 ?_;refine F9 1 rfl afY ?_;intro aA2 aA3 axM;refine aJ 4 ?_;refine zN 5 ?_;rw [show bU x.kd x.ek=⟨#[115,116,101,112]⟩ from by simp [bU,nM,oO,qo]];have axN:=axM.aS [4,3,2,1];rw [show bS x.kd x.ek=some [(1,4)] from by simp [bS,nM,oO,qo]];exact ⟨_,rfl,St.jJ (n:=1) (xs:=([(1,4)]:List (Nat×Int)).flatMap (dw g)) 0 axN rfl rfl rfl⟩
 refine zN 7 ?_;by_cases sj:x.kd=9
 ·refine zN 6 ?_;have apD:=vD.drew;refine aF 5 apD [] ?_;refine aJ 2 ?_;refine aW 1 ?_;refine F9 1 rfl apD ?_;intro aA4 aA5 axO;refine aJ 4 ?_;refine zN 5 ?_;rw [show bU x.kd x.ek=⟨#[115,116,97,114,116]⟩ from by simp [bU,nM,oO,qo,sj]];have akW:=axO.aS [4,3,2,1];rw [show bS x.kd x.ek=some [(1,4)] from by simp [bS,nM,oO,qo,sj]];exact ⟨_,rfl,St.jJ (n:=1) (xs:=([(1,4)]:List (Nat×Int)).flatMap (dw g)) 0 akW rfl rfl rfl⟩
 refine zN 7 ?_;by_cases uM:x.kd=8
 ·refine zN 6 ?_;have abh:=vD.drew;refine aF 9 abh [] ?_;refine aJ 4 ?_;refine ak (v:= .agg #[pV g 4,iV 100000]) 4 rfl abh (λ_ _=>gF) ?_;refine bZ ?_;refine aW 5 ?_;refine jM (i:=5) rfl rfl (V:=λb=> .slice (aD b 0) 2 2) (row:= #[pV g 1,iV 4,pV g 4,iV 100000]) (t:=96) abh (wn rfl) rfl rfl (aV (vs:=[(0,.agg #[pV g 1,iV 4]),(1,.agg #[pV g 4,iV 100000])]) rfl ⟨rfl,rfl,rfl,rfl,trivial⟩ (by kernel_rfl)) ?_;intro aA6 aA7 axP;refine aJ 4 ?_;refine zN 5 ?_;rw [show bU x.kd x.ek=⟨#[99,114,97,115,104]⟩ from by simp [bU,nM,oO,qo,sj,uM]];have akX:=axP.aS [4,3,2,1];rw [show bS x.kd x.ek=some [(1,4),(4,100000)] from by simp [bS,nM,oO,qo,sj,uM]];exact ⟨_,rfl,St.jJ (n:=2) (xs:=([(1,4),(4,100000)]:List (Nat×Int)).flatMap (dw g)) 0 akX rfl rfl rfl⟩
 refine zN 7 ?_;by_cases wu:x.kd=4
 ·refine zN 6 ?_;have apE:=vD.drew;refine aF 5 apE [] ?_;refine aJ 2 ?_;refine aW 1 ?_;refine F9 1 rfl apE ?_;intro aA8 aA9 axQ;refine aJ 4 ?_;refine zN 5 ?_;rw [show bU x.kd x.ek=⟨#[99,97,114,114,121]⟩ from by simp [bU,nM,oO,qo,sj,uM,wu]];have axR:=axQ.aS [4,3,2,1];rw [show bS x.kd x.ek=some [(3,1048576)] from by simp [bS,nM,oO,qo,sj,uM,wu]];exact ⟨_,rfl,St.jJ (n:=1) (xs:=([(3,1048576)]:List (Nat×Int)).flatMap (dw g)) 0 axR rfl rfl rfl⟩
 refine zN 7 ?_;by_cases yK:x.kd=5
 ·refine zN 6 ?_;have afZ:=vD.drew;refine aF 5 afZ [] ?_;refine aJ 2 ?_;refine aW 1 ?_;refine F9 1 rfl afZ ?_;intro aBa aBb axS;refine aJ 4 ?_;refine zN 5 ?_;rw [show bU x.kd x.ek=⟨#[108,111,115,101]⟩ from by simp [bU,nM,oO,qo,sj,uM,wu,yK]];have axT:=axS.aS [4,3,2,1];rw [show bS x.kd x.ek=some [(3,1048576)] from by simp [bS,nM,oO,qo,sj,uM,wu,yK]];exact ⟨_,rfl,St.jJ (n:=1) (xs:=([(3,1048576)]:List (Nat×Int)).flatMap (dw g)) 0 axT rfl rfl rfl⟩
 refine zN 7 ?_;by_cases BI:x.kd=6
 ·refine zN 6 ?_;have apF:=vD.drew;refine aF 5 apF [] ?_;refine aJ 2 ?_;refine aW 1 ?_;refine F9 1 rfl apF ?_;intro aBd aBe axU;refine aJ 4 ?_;refine zN 5 ?_;rw [show bU x.kd x.ek=⟨#[100,111,117,98,108,101]⟩ from by simp [bU,nM,oO,qo,sj,uM,wu,yK,BI]];have axV:=axU.aS [4,3,2,1];rw [show bS x.kd x.ek=some [(3,1048576)] from by simp [bS,nM,oO,qo,sj,uM,wu,yK,BI]];exact ⟨_,rfl,St.jJ (n:=1) (xs:=([(3,1048576)]:List (Nat×Int)).flatMap (dw g)) 0 axV rfl rfl rfl⟩
 refine zN 7 ?_;by_cases EL:x.kd=7
 ·refine zN 16 ?_;rw [show bU x.kd x.ek=⟨#[97,108,108]⟩ from by simp [bU,nM,oO,qo,sj,uM,wu,yK,BI,EL]];have axW:=vD.aS [3,2,1,0];rw [show bS x.kd x.ek=some [] from by simp [bS,nM,oO,qo,sj,uM,wu,yK,BI,EL]];exact ⟨none,rfl,aG axW⟩
 refine zN 7 ?_;by_cases Jf:x.kd=2
 ·refine zN 18 ?_;refine vv (v:=iV x.ek) (aj rfl rfl (ay Tryz.underlying3 rfl (Rd.cl (j:=5) (St.rd 3 vD rfl) rfl))) ?_;refine zN 5 ?_;by_cases OB:x.ek=1
  ·refine zN 6 ?_;have abq:=vD.drew;refine aF 18 abq [] ?_;refine aJ 5 ?_;refine ak (v:= .agg #[pV g 6,iV 3]) 5 rfl abq (λ_ _=>gF) ?_;refine aJ 3 ?_;refine ak (v:= .agg #[pV g 7,iV 1073741824]) 9 rfl abq (λ_ _=>gF) ?_;refine aJ 3 ?_;refine ak (v:= .agg #[pV g 8,iV 1000000]) 13 rfl abq (λ_ _=>gF) ?_;refine bZ ?_;refine aW 14 ?_;refine jM (i:=14) rfl rfl (V:=λb=> .slice (aD b 0) 5 5) (row:= #[pV g 1,iV 4,pV g 2,iV 3,pV g 6,iV 3,pV g 7,iV 1073741824,pV g 8,iV 1000000]) (t:=96) abq (wn rfl) rfl rfl (aV (vs:=[(0,.agg #[pV g 1,iV 4]),(1,.agg #[pV g 2,iV 3]),(2,.agg #[pV g 6,iV 3]),(3,.agg #[pV g 7,iV 1073741824]),(4,.agg #[pV g 8,iV 1000000])]) rfl ⟨rfl,rfl,rfl,rfl,rfl,rfl,rfl,rfl,rfl,rfl,trivial⟩ (by kernel_rfl)) ?_;intro aBf aBg axX;refine aJ 4 ?_;refine zN 6 ?_;rw [show bU x.kd x.ek=⟨#[112,117,98,108,105,115,104]⟩ from by simp [bU,nM,oO,qo,sj,uM,wu,yK,BI,EL,Jf,OB]];have axY:=axX.aS [4,3,2,1];rw [show bS x.kd x.ek=some [(1,4),(2,3),(6,3),(7,1073741824),(8,1000000)] from by simp [bS,nM,oO,qo,sj,uM,wu,yK,BI,EL,Jf,OB]];exact ⟨_,rfl,St.jJ (n:=5) (xs:=([(1,4),(2,3),(6,3),(7,1073741824),(8,1000000)]:List (Nat×Int)).flatMap (dw g)) 0 axY rfl rfl rfl⟩
  refine zN 7 ?_;by_cases V6:x.ek=2
  ·refine zN 6 ?_;have af0:=vD.drew;refine aF 6 af0 [] ?_;refine aJ 3 ?_;refine aW 2 ?_;refine jM (i:=2) rfl rfl (V:=λb=> .slice (aD b 0) 2 2) (row:= #[pV g 1,iV 4,pV g 2,iV 3]) (t:=96) af0 (wn rfl) rfl rfl (aV (vs:=[(0,.agg #[pV g 1,iV 4]),(1,.agg #[pV g 2,iV 3])]) rfl ⟨rfl,rfl,rfl,rfl,trivial⟩ (by kernel_rfl)) ?_;intro aBh aBi axZ;refine aJ 4 ?_;refine zN 6 ?_;rw [show bU x.kd x.ek=⟨#[114,101,99,101,105,118,101]⟩ from by simp [bU,nM,oO,qo,sj,uM,wu,yK,BI,EL,Jf,OB,V6]];have ax0:=axZ.aS [4,3,2,1];rw [show bS x.kd x.ek=some [(1,4),(2,3)] from by simp [bS,nM,oO,qo,sj,uM,wu,yK,BI,EL,Jf,OB,V6]];exact ⟨_,rfl,St.jJ (n:=2) (xs:=([(1,4),(2,3)]:List (Nat×Int)).flatMap (dw g)) 0 ax0 rfl rfl rfl⟩
  refine zN 7 ?_;by_cases af5:x.ek=3
  ·refine zN 6 ?_;have af6:=vD.drew;refine aF 16 af6 [] ?_;refine aJ 6 ?_;refine ak (v:= .agg #[pV g 9,iV 1048576]) 6 rfl af6 (λ_ _=>gF) ?_;refine aJ 4 ?_;refine ak (v:= .agg #[pV g 10,iV 1073741824]) 11 rfl af6 (λ_ _=>gF) ?_;refine bZ ?_;refine aW 12 ?_;refine jM (i:=12) rfl rfl (V:=λb=> .slice (aD b 0) 4 4) (row:= #[pV g 1,iV 4,pV g 2,iV 3,pV g 9,iV 1048576,pV g 10,iV 1073741824]) (t:=96) af6 (wn rfl) rfl rfl (aV (vs:=[(0,.agg #[pV g 1,iV 4]),(1,.agg #[pV g 2,iV 3]),(2,.agg #[pV g 9,iV 1048576]),(3,.agg #[pV g 10,iV 1073741824])]) rfl ⟨rfl,rfl,rfl,rfl,rfl,rfl,rfl,rfl,trivial⟩ (by kernel_rfl)) ?_;intro aBj aBk ax1;refine aJ 4 ?_;refine zN 6 ?_;rw [show bU x.kd x.ek=⟨#[97,99,107]⟩ from by simp [bU,nM,oO,qo,sj,uM,wu,yK,BI,EL,Jf,OB,V6,af5]];have af2:=ax1.aS [4,3,2,1];rw [show bS x.kd x.ek=some [(1,4),(2,3),(9,1048576),(10,1073741824)] from by simp [bS,nM,oO,qo,sj,uM,wu,yK,BI,EL,Jf,OB,V6,af5]];exact ⟨_,rfl,St.jJ (n:=4) (xs:=([(1,4),(2,3),(9,1048576),(10,1073741824)]:List (Nat×Int)).flatMap (dw g)) 0 af2 rfl rfl rfl⟩
  refine zN 18 ?_;rw [show bU x.kd x.ek=⟨#[]⟩ from by simp [bU,nM,oO,qo,sj,uM,wu,yK,BI,EL,Jf,OB,V6,af5]];rw [show bS x.kd x.ek=none from by simp [bS,nM,oO,qo,sj,uM,wu,yK,BI,EL,Jf,OB,V6,af5]];exact ⟨rfl,vD.low⟩
 refine zN 17 ?_;rw [show bU x.kd x.ek=⟨#[]⟩ from by simp [bU,nM,oO,qo,sj,uM,wu,yK,BI,EL,Jf]];rw [show bS x.kd x.ek=none from by simp [bS,nM,oO,qo,sj,uM,wu,yK,BI,EL,Jf]];exact ⟨rfl,vD.low⟩
theorem QH (x:Ac) (w:World):
    Calls Tryz.prog 17 #[.agg #[iV x.kd,iV x.nd,iV x.qu,iV x.at_,iV x.kp,iV x.ek,iV x.ep,iV x.ei,iV x.eb,iV x.eh,iV x.en]] w (l9 w (dz x)):=by
 have S:=St.start w;refine gu 57 Tryz.func17 ?_;refine cw [0] ?_;refine zN 2 ?_;refine iK S ?_;intro b1 w2 S3;refine zN 4 ?_;have HF:=λw h=>XE b1 x w h
 rcases hf:bS x.kd x.ek with _ | l
 ·rw [hf] at HF;refine zQ ?_;refine dH ant (HF _ (St.lY 0 S3 rfl rfl rfl)) ?_;rintro _ w4 ⟨rfl,hb6⟩;refine ⟨_,rfl,?_⟩;have S5:=S3.on hb6;refine zN 25 ?_;rw [Yi hf];exact ⟨rfl,S5.low⟩
 rw [hf] at HF;have hl5:=adA hf;refine zQ ?_;refine dH ant (HF _ (St.lY 0 S3 rfl rfl rfl)) ?_;rintro _ w8 ⟨A7,rfl,T10⟩;refine ⟨_,rfl,?_⟩;have S9:=S3.ext T10 rfl;refine zN 28 ?_;refine dN (X:=Nat) (λxv=>[(1,pV b1 0),(2,iV 0),(4,.slice A7 l.length l.length),(17,.slice A7 l.length l.length),(18,iV ((l.length:Nat):Int)),(19,iV ((xv:Nat):Int))]) (λxv wr=>(xv<=l.length)/\((l.take xv).all (Nu x)=true)/\St w.heap.size w wr [.cB 2 A7 l.length ((l).flatMap (dw b1)),.blk b1 #[iV x.kd,iV x.nd,iV x.qu,iV x.at_,iV x.kp,iV x.ek,iV x.ep,iV x.ei,iV x.eb,iV x.eh,iV x.en] 57]) (λxv=>l.length-xv) (0) ?_ ?_ ?_
 ·exact ⟨Nat.zero_le _,rfl,S9⟩
 ·exact ⟨rfl,rfl,rfl,rfl,rfl,rfl,trivial⟩
 rintro k Jp ⟨ajP,Lm,mJ⟩
 try dsimp only at ajP Lm mJ
 refine bC (l':=[(1,pV b1 0),(2,iV 0),(4,.slice A7 l.length l.length),(17,.slice A7 l.length l.length),(18,iV ((l.length:Nat):Int)),(19,iV ((k:Nat):Int))]) ⟨rfl,rfl,rfl,rfl,rfl,rfl,trivial⟩ (aK (aC ?_));by_cases h15:((k:Nat):Int)< ((l.length:Nat):Int)
 ·refine zN 11 ?_;obtain ⟨b16,o17,rfl⟩:=Rd.addr (St.cB 0 mJ rfl) (by omega);obtain ⟨x18,Et⟩:=KG k (St.cB 0 mJ rfl) (by omega);refine vv (jd k) ?_;refine vv (aj rfl rfl (aA (cs:=(dw b1) x18) Tryz.underlying96 rfl tO rfl (Rd.vQ (St.cB 0 mJ rfl) (λ_ _ h=>aZ (enc:=(dw b1)) (sz:=2) (λ_=>rfl) Et h)))) ?_;refine fF mJ Fa ?_;intro b20 DL iW;refine sa 0 iW tO ?_;intro Js jB;refine zN 2 ?_;have hp:=O6 hf x18 (List.mem_of_getElem? Et);refine zQ ?_;refine fC jB mixed (by kernel_rfl) ?_;refine zN 3 ?_;refine uv (v:=iV (x.get x18.1)) (λ_ ajZ=>(aj rfl rfl (ay Tryz.underlying3 rfl (St.cl 2 ajZ rfl (Ac.ajv x hp.2.1))))) ?_;by_cases h29:x.get x18.1<0
  ·refine zN 10 ?_;refine eT λZy qJ=>?_;refine zN 14 ?_;rw [JR hf (Yj Et (by omega))];exact ⟨rfl,qJ.low⟩
  refine zN 5 ?_;refine ug (v:=iV (x.get x18.1)) (λ_ ax2=>(aj rfl rfl (ay Tryz.underlying3 rfl (St.cl 2 ax2 rfl (Ac.ajv x hp.2.1))))) ?_;refine zN 2 ?_;by_cases h43:x18.2<x.get x18.1
  ·refine zN 2 ?_;refine eT λYz zh=>?_;refine zN 14 ?_;rw [JR hf (Yj Et (by omega))];exact ⟨rfl,zh.low⟩
  refine zN 2 ?_;refine eT λUL uy=>?_;refine zN 6 ?_;refine vv (v:=iV ((k+1:Nat):Int)) gD ?_;refine zN 2 ?_;have oq:=uy.aS [0];refine aN (k+1) ?_ ⟨rfl,rfl,rfl,rfl,rfl,rfl,trivial⟩ (by first | omega | (dsimp only;omega));exact ⟨(by omega),(adC Et Lm (by omega)),oq⟩
 refine zN 19 ?_;obtain rfl:k=l.length:=by omega
 have hall:=Lm;rw [List.take_length] at hall;refine dN (X:=Nat) (λxv=>[(1,pV b1 0),(2,iV 0),(38,.slice A7 l.length l.length),(39,iV ((l.length:Nat):Int)),(40,iV ((xv:Nat):Int))]) (λxv wr=>(xv<=l.length)/\St w.heap.size w wr [.cB 2 A7 l.length ((l).flatMap (dw b1)),.blk b1 (oV (yZ x.ints (l.take xv))) 57]) (λxv=>l.length-xv) (0) ?_ ?_ ?_
 ·exact ⟨Nat.zero_le _,mJ⟩
 ·exact ⟨rfl,rfl,rfl,rfl,rfl,trivial⟩
 rintro j w53 ⟨Ot,mM⟩
 try dsimp only at Ot mM
 refine bC (l':=[(1,pV b1 0),(2,iV 0),(38,.slice A7 l.length l.length),(39,iV ((l.length:Nat):Int)),(40,iV ((j:Nat):Int))]) ⟨rfl,rfl,rfl,rfl,rfl,trivial⟩ (aK (aC ?_));by_cases h56:((j:Nat):Int)< ((l.length:Nat):Int)
 ·refine zN 11 ?_;obtain ⟨b57,o58,rfl⟩:=Rd.addr (St.cB 0 mM rfl) (by omega);obtain ⟨x59,ak7⟩:=KG j (St.cB 0 mM rfl) (by omega);refine vv (jd j) ?_;refine vv (aj rfl rfl (aA (cs:=(dw b1) x59) Tryz.underlying96 rfl tO rfl (Rd.vQ (St.cB 0 mM rfl) (λ_ _ h=>aZ (enc:=(dw b1)) (sz:=2) (λ_=>rfl) ak7 h)))) ?_;refine fF mM Fa ?_;intro b61 Yt wE;refine sa 0 wE tO ?_;intro YK Di;refine zN 6 ?_;have hp:=O6 hf x59 (List.mem_of_getElem? ak7);refine Iz (row':=oV (yZ x.ints (l.take (j+1)))) 2 Di (wn rfl) rfl rfl rfl rfl rfl rfl lH rfl (by rw [mG (by rw [xR];rfl)];omega) (by rw [Ba,adD ak7]) ?_;intro UK uz;refine zN 4 ?_;refine vv (v:=iV ((j+1:Nat):Int)) gD ?_;refine zN 2 ?_;have wJ:=uz.aS [0];refine aN (j+1) ?_ ⟨rfl,rfl,rfl,rfl,rfl,trivial⟩ (by first | omega | (dsimp only;omega));exact ⟨(by omega),wJ⟩
 refine zN 12 ?_;obtain rfl:j=l.length:=by omega
 rw [List.take_length] at mM;refine zN 2 ?_;refine vv (aj rfl rfl (ay Tryz.underlying3 rfl (St.cl 1 mM rfl (Zw (by rw [RN _ _ (λp hp=>(O6 hf p hp).1)];rfl))))) ?_;by_cases h69:x.kd=2
 ·refine zN 7 ?_;refine Iz (row':=oV ((yZ x.ints l).set 5 0)) 1 mM (wn rfl) rfl rfl rfl rfl rfl rfl lH rfl (by rw [mG (by simp only [List.length_set,xR];rfl)];decide) Ba ?_;intro ZG rG;refine zN 5 ?_;refine Iz (row':=oV (((yZ x.ints l).set 5 0).set 0 0)) 1 rG (wn rfl) rfl rfl rfl rfl rfl rfl lH rfl (by rw [mG (by simp only [List.length_set,xR];rfl)];decide) Ba ?_;intro w72 tT;refine zN 4 ?_;have hfn:fin x l=((yZ x.ints l).set 5 0).set 0 0:=by unfold fin;rw [if_pos h69]
  have hfl:(((yZ x.ints l).set 5 0).set 0 0).length=11:=by simp only [List.length_set,xR];rfl
  have HN:=λw=>acL (a:=((yZ x.ints l).set 5 0).set 0 0) (b:=zeros) hfl rfl w;rw [<-hfn] at HN;by_cases hfi:fin x l=zeros
  ·rw [decide_eq_true hfi] at HN;rw [hfn] at HN;refine zQ ?_;refine vv (v:= .agg (oV (((yZ x.ints l).set 5 0).set 0 0))) (aj rfl rfl (oC 1 tT rfl Tryz.underlying57 rfl kg (mG hfl))) ?_;refine zQ ?_;refine vv (v:= .bool false) (aL rfl rfl rfl (Ib (by kernel_rfl) (HN _))) ?_;refine zN 12 ?_;rw [ai2 hf hall hfi];exact ⟨rfl,tT.low⟩
  rw [decide_eq_false hfi] at HN;rw [hfn] at HN;refine zQ ?_;refine vv (v:= .agg (oV (((yZ x.ints l).set 5 0).set 0 0))) (aj rfl rfl (oC 1 tT rfl Tryz.underlying57 rfl kg (mG hfl))) ?_;refine zQ ?_;refine vv (v:= .bool true) (aL rfl rfl rfl (Ib (by kernel_rfl) (HN _))) ?_;refine zN 11 ?_;rw [O7 hf hall hfi];exact ⟨rfl,tT.low⟩
 refine zN 9 ?_;refine Iz (row':=oV ((yZ x.ints l).set 0 0)) 1 mM (wn rfl) rfl rfl rfl rfl rfl rfl lH rfl (by rw [mG (by simp only [List.length_set,xR];rfl)];decide) Ba ?_;intro w74 Bb;refine zN 4 ?_;have hfn:fin x l=(yZ x.ints l).set 0 0:=by unfold fin;rw [if_neg h69]
 have hfl:((yZ x.ints l).set 0 0).length=11:=by simp only [List.length_set,xR];rfl
 have HN:=λw=>acL (a:=(yZ x.ints l).set 0 0) (b:=zeros) hfl rfl w;rw [<-hfn] at HN;by_cases hfi:fin x l=zeros
 ·rw [decide_eq_true hfi] at HN;rw [hfn] at HN;refine zQ ?_;refine vv (v:= .agg (oV ((yZ x.ints l).set 0 0))) (aj rfl rfl (oC 1 Bb rfl Tryz.underlying57 rfl kg (mG hfl))) ?_;refine zQ ?_;refine vv (v:= .bool false) (aL rfl rfl rfl (Ib (by kernel_rfl) (HN _))) ?_;refine zN 12 ?_;rw [ai2 hf hall hfi];exact ⟨rfl,Bb.low⟩
 rw [decide_eq_false hfi] at HN;rw [hfn] at HN;refine zQ ?_;refine vv (v:= .agg (oV ((yZ x.ints l).set 0 0))) (aj rfl rfl (oC 1 Bb rfl Tryz.underlying57 rfl kg (mG hfl))) ?_;refine zQ ?_;refine vv (v:= .bool true) (aL rfl rfl rfl (Ib (by kernel_rfl) (HN _))) ?_;refine zN 11 ?_;rw [O7 hf hall hfi];exact ⟨rfl,Bb.low⟩
instance:zu Ac where
 size:=11
 ints x:=x.ints
 of l:=⟨l.getD 0 0,l.getD 1 0,l.getD 2 0,l.getD 3 0,l.getD 4 0,l.getD 5 0,l.getD 6 0,l.getD 7 0,l.getD 8 0,l.getD 9 0,l.getD 10 0⟩
 pos:=by omega
 len _:=rfl
 inv xs h:=by
  obtain ⟨a1,xs,rfl⟩:=List.exists_cons_of_length_eq_add_one h;obtain ⟨a2,xs,rfl⟩:=List.exists_cons_of_length_eq_add_one (Nat.succ.inj h);have h:=Nat.succ.inj (Nat.succ.inj h);obtain ⟨a3,xs,rfl⟩:=List.exists_cons_of_length_eq_add_one h;obtain ⟨a4,xs,rfl⟩:=List.exists_cons_of_length_eq_add_one (Nat.succ.inj h);have h:=Nat.succ.inj (Nat.succ.inj h);obtain ⟨a5,xs,rfl⟩:=List.exists_cons_of_length_eq_add_one h;obtain ⟨a6,xs,rfl⟩:=List.exists_cons_of_length_eq_add_one (Nat.succ.inj h);have h:=Nat.succ.inj (Nat.succ.inj h);obtain ⟨a7,xs,rfl⟩:=List.exists_cons_of_length_eq_add_one h;obtain ⟨a8,xs,rfl⟩:=List.exists_cons_of_length_eq_add_one (Nat.succ.inj h);have h:=Nat.succ.inj (Nat.succ.inj h);obtain ⟨a9,xs,rfl⟩:=List.exists_cons_of_length_eq_add_one h;obtain ⟨a10,xs,rfl⟩:=List.exists_cons_of_length_eq_add_one (Nat.succ.inj h);have h:=Nat.succ.inj (Nat.succ.inj h);obtain ⟨a11,xs,rfl⟩:=List.exists_cons_of_length_eq_add_one h;obtain rfl:=List.eq_nil_of_length_eq_zero (Nat.succ.inj h);rfl
def vO:List Ac->Int
 | []=>0
 | a::l=>if dz a≠0 then dz a else vO l
def BJ (l:List Ac):Int:=if 100000<l.length then 1 else vO l
section
variable {l:List Ac} {k:Nat} {x:Ac}
theorem anh (h:l[k]? =some x) (hf:dz x=0):vO (l.drop k)=vO (l.drop (k+1)):=by rw [drop_cons h,vO,if_neg (λe=>e hf)]
theorem ais (h:l[k]? =some x) (hf: ¬ dz x=0):vO (l.drop k)=dz x:=by rw [drop_cons h,vO,if_pos hf]
theorem Pn (h: ¬ 100000<l.length):BJ l=vO l:=if_neg h
theorem ae8 (h:100000<l.length):BJ l=1:=if_pos h
theorem KY: ∀ {l:List Ac},vO l=0-> ∀ a∈l,dz a=0
 | [],_,a,ha=>by simp at ha
 | x::l,h,a,ha=>by
  rw [vO] at h
  split at h
  ·rename_i hx;exact absurd h hx
  rename_i hx
  rcases List.mem_cons.1 ha with rfl | ha
  ·exact Classical.not_not.1 hx
  exact KY h a ha
theorem ait (h:BJ l=0):l.length<=100000/\ ∀ a∈l,dz a=0:=by
 unfold BJ at h
 split at h
 ·cases h
 exact ⟨by omega,KY h⟩
theorem aiu (h:l[k]? =some x):l.take (k+1)=l.take k++[x]:=by rw [List.take_add_one,h];rfl
theorem ae9 {m:Cl} {l:List Ac}:m.run (l++[x])=(m.run l).act x:=by unfold Cl.run;rw [List.foldl_append];rfl
end
def FQ (fl:Nat) (U:Nat->Bool) (d:Dir) (bv sv tv:Value) (calls:Nat):List Value:=
 [iV ((fl:Nat):Int),.bool (U 0),.bool (U 1),.bool (U 2),.bool (U 3),.bool (U 4),iV d.p0.node,iV d.p0.epoch,iV d.p1.node,iV d.p1.epoch,iV d.p2.node,iV d.p2.epoch,iV d.p3.node,iV d.p3.epoch,bv,sv,tv,iV ((calls:Nat):Int)]
def nN (fl:Nat) (U:Nat->Bool) (d:Dir) (bv sv tv:Value) (calls:Nat):Array Value:=(FQ fl U d bv sv tv calls).toArray
def aiv:Array Value:= #[iV 0,.bool false,.bool false,.bool false,.bool false,.bool false,iV 0,iV 0,iV 0,iV 0,iV 0,iV 0,iV 0,iV 0,.slice none 0 0,.slice none 0 0,.slice none 0 0,iV 0]
section
variable {fl calls q k:Nat} {U:Nat->Bool} {d:Dir} {bv sv tv fv nv:Value} {sh:Nat->Nat->Int×Int}
theorem ajw (h1:bv.oneCell'=true) (h2:sv.oneCell'=true) (h3:tv.oneCell'=true): ∀ u∈(nN fl U d bv sv tv calls).toList,u.oneCell'=true:=by
 intro u hu;simp only [nN,FQ,List.mem_cons,List.not_mem_nil,or_false] at hu
 rcases hu with rfl | rfl | rfl | rfl | rfl | rfl | rfl | rfl | rfl | rfl | rfl | rfl | rfl | rfl | rfl | rfl | rfl | rfl<;>first | rfl | assumption
theorem V7 {fl' calls' o:Nat} {U':Nat->Bool} {d':Dir} {bv' sv' tv':Value} {vs:List Value} (h:o+vs.length<=18) (he:(FQ fl U d bv sv tv calls).take o++vs++(FQ fl U d bv sv tv calls).drop (o+vs.length)=FQ fl' U' d' bv' sv' tv' calls'):
  cu (nN fl U d bv sv tv calls) o vs=nN fl' U' d' bv' sv' tv' calls':=Array.ext' (by rw [gU _ _ _ h];exact he)
theorem ax3 {fl':Nat}:cu (nN fl U d bv sv tv calls) 0 [iV ((fl':Nat):Int)]=nN fl' U d bv sv tv calls:=V7 (Nat.le_of_ble_eq_true rfl) rfl
theorem ax4 {d':Dir}:cu (nN fl U d bv sv tv calls) 6 d'.cells=nN fl U d' bv sv tv calls:=V7 (Nat.le_of_ble_eq_true rfl) rfl
theorem ajx {x:Value}:cu (nN fl U d bv sv tv calls) 14 [x]=nN fl U d x sv tv calls:=V7 (Nat.le_of_ble_eq_true rfl) rfl
theorem ash (hq:q<5) {v:Bool}:cu (nN fl U d bv sv tv calls) (1+q*1) [.bool v]=nN fl (upd U q v) d bv sv tv calls:=by
 rcases five hq with rfl | rfl | rfl | rfl | rfl<;>exact V7 (Nat.le_of_ble_eq_true rfl) rfl
theorem aiw: ∀ (j:Nat) (u:Value),(nN 0 (λ_=>false) (⟨⟨0,0⟩,⟨0,0⟩,⟨0,0⟩,⟨0,0⟩⟩:Dir) (.slice none 0 0) sv tv calls).toList[j]? =some u->(kP nv d fv sh sv tv calls)[50+j]? =some u:=by
 intro j u h;have hj:j<18:=(List.getElem?_eq_some_iff.1 h).1;have h2:j=0\/j=1\/j=2\/j=3\/j=4\/j=5\/j=6\/j=7\/j=8\/j=9\/j=10\/j=11\/j=12\/j=13\/j=14\/j=15\/j=16\/j=17:=by omega
 rcases h2 with rfl | rfl | rfl | rfl | rfl | rfl | rfl | rfl | rfl | rfl | rfl | rfl | rfl | rfl | rfl | rfl | rfl | rfl<;>exact h
end
def fU (p:Nat×List BX):List Value:=[.slice (aD p.1 0) 4 4]
structure P1 (L:List Fact) (m:Cl) (j:Nat) (p:Nat×List BX):Prop where
 rd:Ro L 6 (aD p.1 0) 4 (p.2.flatMap BX.cells)
 bm:p.2.map BX.b=vB (m.ah j).view
 bo: ∀ y∈p.2,Bo L y
theorem P1.mono {L L':List Fact} {m:Cl} {j:Nat} {p:Nat×List BX} (h:P1 L m j p) (hl: ∀ f∈L,f∈L'):P1 L' m j p:=⟨h.rd.mono hl,h.bm,λy hy=>(h.bo y hy).mono hl⟩
def V8 (L:List Fact) (m:Cl) (row:Array Value):Prop:= ∃ (U:Nat->Bool) (BA:Option Addr) (bc:Nat) (sA:Option Addr) (sc:Nat) (tA:Option Addr) (tc:Nat) (ps:List (Nat×List BX)),row=nN m.fly.length U m.off (.slice BA 5 bc) (.slice sA m.aU.length sc) (.slice tA m.bL.length tc) m.calls/\(∀ j,j<5->U j=(m.ah j).up)/\ps.length=5/\
 Ro L 1 BA 5 (ps.flatMap fU)/\Ro L 14 sA m.aU.length (m.aU.flatMap kJ.cells)/\Ro L 7 tA m.bL.length (m.bL.flatMap wM.cells)/\ ∀ j p,ps[j]? =some p->P1 L m j p
section
variable {K:CK} {R:CX} {B n k:Nat} {w0 w:World} {fs gs N E L LC:List Fact} {m:Cl} {H:List LX} {X:Nd} {z:NX} {ps:List (Nat×List BX)} {p:Nat×List BX} {bs:List BX} {bB:Nat} {U:Nat->Bool}
theorem Wd.top (h:Wd K B w0 w fs m H):St B w0 w fs:=by
 obtain ⟨R,_,S⟩:=h;exact S.sub (List.sublist_append_left _ _)
open Classical in
theorem St.shut (hn:n<5) (S:St B w0 w (jV K n (m.ah n) (R.nx n)++(uJ K R m++(gs++gq K R m fs n)))):St B w0 w (gs++(fs++kS K R m)):=by
 refine S.perm (List.perm_iff_count.2 λa=>?_);have h1:=List.perm_iff_count.1 (uV (λj=>jV K j (m.ah j) (R.nx j)) hn) a;unfold gq kS lq;simp only [List.count_append] at h1⊢;omega
open Classical in
theorem St.ajy (hn:n<5) (S:St B w0 w (jV K n (m.ah n) (R.nx n)++(uJ K R m++(gs++((N++(fs++(lq K R m n++R.L)))++E))))):St B w0 w (gs++((E++N)++(fs++kS K R m))):=by
 refine S.perm (List.perm_iff_count.2 λa=>?_);have h1:=List.perm_iff_count.1 (uV (λj=>jV K j (m.ah j) (R.nx j)) hn) a;unfold kS lq;simp only [List.count_append] at h1⊢;omega
open Classical in
theorem St.ax5 (hn:n<5) (S:St B w0 w (gs++(N++(fs++kS K R m)))):St B w0 w (jV K n (m.ah n) (R.nx n)++(uJ K R m++(gs++(N++(fs++(lq K R m n++R.L)))))):=by
 refine S.perm (List.perm_iff_count.2 λa=>?_);have h1:=List.perm_iff_count.1 (uV (λj=>jV K j (m.ah j) (R.nx j)) hn) a;unfold kS lq;simp only [List.count_append] at h1⊢;omega
open Classical in
theorem St.asi (S:St B w0 w (gs++(N++(fs++LC)))):St B w0 w ((gs++(N++LC))++fs):=by
 refine S.perm (List.perm_iff_count.2 λa=>?_);simp only [List.count_append];omega
theorem OC (hl:ps.length=k) (h: ∀ j p,ps[j]? =some p->P1 L m j p) (hn:P1 L m k p): ∀ j q,(ps++[p])[j]? =some q->P1 L m j q:=λj q hq=>by
 by_cases e:j<ps.length
 ·rw [List.getElem?_append_left e] at hq;exact h j q hq
 rw [List.getElem?_append_right (by omega)] at hq;have:j-ps.length=0:=by
  have:=(List.getElem?_eq_some_iff.1 hq).1;rw [List.length_singleton] at this;omega
 rw [this] at hq
 cases hq;rw [show j=k by omega];exact hn
theorem ani (hk:k<5) (hz:R.nx k=z):Fact.own 43 6 (.slice (aD z.bb 0) 4 4) 4 (z.bx.flatMap BX.cells)∈kS K R m:=by
 subst hz;refine List.mem_append_right _ (List.mem_append_left _ (List.mem_flatMap.2 ⟨k,List.mem_range.2 hk,?_⟩));exact List.mem_cons_of_mem _ (List.mem_cons_self ..)
theorem aix (h:dP K R.L k (m.ah k) (R.nx k)) (hX:m.ah k=X) (hz:R.nx k=z) (hu:X.up=true) (hk:k<5):P1 (N++kS K R m) m k (z.bb,z.bx):=by
 have ho:=ani (K:=K) (m:=m) hk hz;subst hX;subst hz;refine ⟨Ro.own (List.mem_append_right _ ho),?_,λy hy=>(h.Sy y hy).mono λf hf=>List.mem_append_right _ (List.mem_append_right _ (List.mem_append_right _ hf))⟩;rw [gL hu];exact h.Qw
theorem aiy (hm:bs.map BX.b=vB (bI X.data X.syn)) (hc: ∀ y∈bs,y.b.evs.length<=y.c) (hX:m.ah k=X) (hu:X.up=false):P1 ((Fact.own 43 6 (.slice (aD bB 0) 4 4) 4 (bs.flatMap BX.cells)::(fB bs++N))++LC) m k (bB,bs):=by
 subst hX;refine ⟨Ro.own (List.mem_append_left _ (List.mem_cons_self ..)),?_,λy hy=>(Ox hc y hy).mono λf hf=>List.mem_append_left _ (List.mem_cons_of_mem _ (List.mem_append_left _ hf))⟩;unfold Nd.view;rw [if_neg (by rw [hu];simp)];exact hm
theorem SV (h: ∀ j,j<k->U j=(m.ah j).up) (hX:m.ah k=X): ∀ j,j<k+1->upd U k X.up j=(m.ah j).up:=λj hj=>by
 by_cases e:j=k
 ·rw [e,upd_same,hX]
 rw [upd_ne e];exact h j (by omega)
theorem aiz {OA:Option Addr} {oc:Nat} (G:Good K R m H) (hl:ps.length=5) (hU: ∀ j,j<5->U j=(m.ah j).up) (hL:Fact.own 44 1 (.slice OA ps.length oc) ps.length (ps.flatMap fU)∈L) (hC: ∀ f∈kS K R m,f∈L) (hp: ∀ j p,ps[j]? =some p->P1 L m j p):
  V8 L m (nN R.fx.length U m.off (.slice OA ps.length oc) (.slice R.sA m.aU.length R.sc) (.slice R.tA m.bL.length R.tc) m.calls):=by
 rw [hl] at hL⊢;have hf:R.fx.length=m.fly.length:=by rw [<-G.fly,List.length_map]
 have h1:Fact.own 150 14 (.slice R.sA m.aU.length R.sc) m.aU.length (m.aU.flatMap kJ.cells)∈kS K R m:=List.mem_append_left _ (List.mem_cons_of_mem _ (List.mem_cons_of_mem _ (List.mem_cons_self ..)));have h2:Fact.own 103 7 (.slice R.tA m.bL.length R.tc) m.bL.length (m.bL.flatMap wM.cells)∈kS K R m:=List.mem_append_left _ (List.mem_cons_of_mem _ (List.mem_cons_of_mem _ (List.mem_cons_of_mem _ (List.mem_cons_self ..))));exact ⟨U,OA,oc,R.sA,R.sc,R.tA,R.tc,ps,by rw [hf],hU,hl,Ro.own hL,Ro.own (hC _ h1),Ro.own (hC _ h2),hp⟩
end
theorem abr {B:Nat} {w0 w:World} {fs:List Fact} {A:Option Addr} {c:Nat} {l:List Ac} (S:St B w0 w fs) (hu:Uk B w0) (AL:Ro fs 11 A l.length (l.flatMap Ac.cells)) (hb:l.length*88<=reachBytes):
    Calls Tryz.prog 14 #[.slice A l.length c] w (λe w'=>(BJ l≠0->e= .returned (.tuple #[.agg aiv,iV (BJ l)])/\St B w0 w' fs)/\(BJ l=0-> ∃ row L,e= .returned (.tuple #[.agg row,iV 0])/\V8 L (dZ.run l) row/\St B w0 w' (L++fs))):=by
 have hb2:=hb;unfold reachBytes at hb2;refine gu 99 Tryz.func14 ?_;refine cw [0] ?_;refine zN 2 ?_;refine fF S QX ?_;intro b1 w2 S3;refine zN 8 ?_;by_cases h4:100000< ((l.length:Nat):Int)
 ·refine zN 7 ?_;refine sa 0 S3 uq ?_;intro w5 S6;refine zN 6 ?_;have S7:=S6.aS [0];have hsf:BJ l=1:=ae8 (by omega);refine ⟨λ_=>⟨by rw [hsf];rfl,S7⟩,λh=>?_⟩;rw [hsf] at h;exact absurd h (by first | decide | assumption)
 refine zN 15 ?_;refine dN (X:=Nat) (λxv=>[(0,.slice A l.length c),(2,pV b1 0),(3,iV 0),(18,.slice A l.length c),(19,iV ((l.length:Nat):Int)),(20,iV ((xv:Nat):Int))]) (λxv wr=>(xv<=l.length)/\(vO l=vO (l.drop xv))/\St B w0 wr ((.blk b1 #[iV 0,.bool false,.bool false,.bool false,.bool false,.bool false,iV 0,iV 0,iV 0,iV 0,iV 0,iV 0,iV 0,iV 0,.slice none 0 0,.slice none 0 0,.slice none 0 0,iV 0] 40)::fs)) (λxv=>l.length-xv) (0) ?_ ?_ ?_
 ·exact ⟨Nat.zero_le _,rfl,S3⟩
 ·exact ⟨rfl,rfl,rfl,rfl,rfl,rfl,trivial⟩
 rintro k1 w8 ⟨ny,Rc,S9⟩
 try dsimp only at ny Rc S9
 refine bC (l':=[(0,.slice A l.length c),(2,pV b1 0),(3,iV 0),(18,.slice A l.length c),(19,iV ((l.length:Nat):Int)),(20,iV ((k1:Nat):Int))]) ⟨rfl,rfl,rfl,rfl,rfl,rfl,trivial⟩ (aK (aC ?_));by_cases h12:((k1:Nat):Int)< ((l.length:Nat):Int)
 ·refine zN 10 ?_;obtain ⟨x,hx⟩: ∃ x,l[k1]? =some x:=⟨_,List.getElem?_eq_getElem (by omega)⟩;obtain ⟨ab_,ao_,hAb⟩:=pF AL S9 (memT 1 rfl dQ) (by omega);refine zQ ?_;refine vv (v:=pV ab_ (ao_+k1*11)) (aO rfl rfl rfl (dD k1 hAb Tryz.underlying26 kg (by omega) (by omega))) ?_;refine vv (v:= .agg #[iV x.kd,iV x.nd,iV x.qu,iV x.at_,iV x.kp,iV x.ek,iV x.ep,iV x.ei,iV x.eb,iV x.eh,iV x.en]) (aj rfl rfl (aA (cs:=Ac.cells x) Tryz.underlying57 rfl kg rfl (λj u hu=>by rw [Nat.add_assoc];exact fJ AL hAb S9 (memT 1 rfl dQ) (aZ (enc:=Ac.cells) (sz:=11) (k:=k1) (λ_=>rfl) hx hu)))) ?_;refine fF S9 afu ?_;intro b13 Jw gJ;refine sa 0 gJ kg ?_;intro w16 lS;refine zN 5 ?_;refine cab asJ lS (QH x _) ?_;intro Nz l5;refine zN 6 ?_;by_cases h21:dz x=0
  ·refine zN 8 ?_;refine vv (v:=iV ((k1+1:Nat):Int)) gD ?_;refine zN 2 ?_;have iW:=l5.aS [0];refine aN (k1+1) ?_ ⟨rfl,rfl,rfl,rfl,rfl,rfl,trivial⟩ (by first | omega | (dsimp only;omega));exact ⟨(by omega),(by rw [Rc];exact anh hx h21),iW⟩
  refine zN 8 ?_;refine sa 1 l5 uq ?_;intro Js jB;refine zN 10 ?_;have jA:=jB.aS [1,0];have hsf:BJ l=dz x:=by rw [Pn (by omega),Rc];exact ais hx h21
  refine ⟨λ_=>⟨by rw [hsf];rfl,jA⟩,λh=>?_⟩;rw [hsf] at h;exact absurd h (by first | decide | assumption)
 refine zN 12 ?_;have apG:BJ l=0:=by rw [Pn (by omega),Rc,List.drop_eq_nil_of_le (by omega)];rfl
 obtain ⟨ayV,hall⟩:=ait apG;refine dH asK (Uo S9 hu) ?_;rintro _ NC ⟨K,rfl,ax6⟩;refine ⟨_,rfl,?_⟩;have acf:Wd K B w0 NC ((.blk b1 #[iV 0,.bool false,.bool false,.bool false,.bool false,.bool false,iV 0,iV 0,iV 0,iV 0,iV 0,iV 0,iV 0,iV 0,.slice none 0 0,.slice none 0 0,.slice none 0 0,iV 0] 40)::fs) dZ []:=ax6;have rH:=Wd.top acf;obtain ⟨kw,bY⟩: ∃ b,K.wb=b:=⟨_,rfl⟩;obtain ⟨n,hn0⟩: ∃ n,n=0:=⟨_,rfl⟩;have hn:n<5:=by omega
 obtain ⟨kn,hkn⟩: ∃ b,K.nb n=b:=⟨_,rfl⟩;rw [bY];refine zN 12 ?_;refine dN (X:=Nat×Cl) (λxv=>[(2,pV b1 0),(3,iV 0),(7,pV kw 0),(32,.slice A l.length c),(33,iV ((l.length:Nat):Int)),(34,iV ((xv.1:Nat):Int))]) (λxv wr=>(Wd K B w0 wr ((.blk b1 #[iV 0,.bool false,.bool false,.bool false,.bool false,.bool false,iV 0,iV 0,iV 0,iV 0,iV 0,iV 0,iV 0,iV 0,.slice none 0 0,.slice none 0 0,.slice none 0 0,iV 0] 40)::fs) xv.2 [])/\(xv.2=dZ.run (l.take xv.1))/\(Bs xv.2 xv.1)/\(ShN xv.2)/\(xv.1<=l.length)/\St B w0 wr ((.blk b1 #[iV 0,.bool false,.bool false,.bool false,.bool false,.bool false,iV 0,iV 0,iV 0,iV 0,iV 0,iV 0,iV 0,iV 0,.slice none 0 0,.slice none 0 0,.slice none 0 0,iV 0] 40)::fs)) (λxv=>l.length-xv.1) (0,dZ) ?_ ?_ ?_
 ·exact ⟨acf,rfl,akm,λ_ _=>Int.le_refl _,Nat.zero_le _,Wd.top acf⟩
 ·exact ⟨rfl,rfl,rfl,rfl,rfl,rfl,trivial⟩
 rintro ⟨k2,mm⟩ ZO ⟨Rq,IK,u6,BD,akR,sP⟩
 try dsimp only at Rq IK u6 BD akR sP
 refine bC (l':=[(2,pV b1 0),(3,iV 0),(7,pV kw 0),(32,.slice A l.length c),(33,iV ((l.length:Nat):Int)),(34,iV ((k2:Nat):Int))]) ⟨rfl,rfl,rfl,rfl,rfl,rfl,trivial⟩ ?_;obtain ⟨R3,G3,U7⟩:=Rq.open hn;have SS:=G3.kY n hn;obtain ⟨X3,BF⟩: ∃ X,mm.ah n=X:=⟨_,rfl⟩;obtain ⟨z3,hz3⟩: ∃ z,R3.nx n=z:=⟨_,rfl⟩;rw [BF,hz3] at U7 SS;obtain ⟨YU,Jd⟩: ∃ r,gq K R3 mm fs n=r:=⟨_,rfl⟩;have apH: ∀ f∈fs,f∈YU:=λf hf=>Jd▸List.mem_append_left _ hf;have nW:St B w0 ZO (cN kn n X3 z3 z3.pv (cF kw R3 mm ((.blk b1 #[iV 0,.bool false,.bool false,.bool false,.bool false,.bool false,iV 0,iV 0,iV 0,iV 0,iV 0,iV 0,iV 0,iV 0,.slice none 0 0,.slice none 0 0,.slice none 0 0,iV 0] 40)::YU))):=by rw [<-Jd];subst hkn;subst bY;exact U7
 clear U7;refine zN 2 ?_;by_cases h37:((k2:Nat):Int)< ((l.length:Nat):Int)
 ·refine zN 10 ?_;obtain ⟨x,hx⟩: ∃ x,l[k2]? =some x:=⟨_,List.getElem?_eq_getElem (by omega)⟩;obtain ⟨ab_,ao_,hAb⟩:=pF AL nW (memT 8 rfl apH) (by omega);have hxa:=ab4 (hall x (List.mem_of_getElem? hx));refine zQ ?_;refine vv (v:=pV ab_ (ao_+k2*11)) (aO rfl rfl rfl (dD k2 hAb Tryz.underlying26 kg (by omega) (by omega))) ?_;refine vv (v:= .agg #[iV x.kd,iV x.nd,iV x.qu,iV x.at_,iV x.kp,iV x.ek,iV x.ep,iV x.ei,iV x.eb,iV x.eh,iV x.en]) (aj rfl rfl (aA (cs:=Ac.cells x) Tryz.underlying57 rfl kg rfl (λj u hu=>by rw [Nat.add_assoc];exact fJ AL hAb nW (memT 8 rfl apH) (aZ (enc:=Ac.cells) (sz:=11) (k:=k2) (λ_=>rfl) hx hu)))) ?_;refine fF nW afu ?_;intro b38 YD rJ;refine sa 0 rJ kg ?_;intro w41 pE;refine zN 5 ?_;have qc:=pE.aS [0];have ax7:=Wd.dM (m:=mm) (m':=mm) (H:=[]) (H':=[]) (fs:=(.blk b1 #[iV 0,.bool false,.bool false,.bool false,.bool false,.bool false,iV 0,iV 0,iV 0,iV 0,iV 0,iV 0,iV 0,iV 0,.slice none 0 0,.slice none 0 0,.slice none 0 0,iV 0] 40)::fs) (X':=X3) (z':=z3) (Ls:=[]) (fA:=R3.fA) (fc:=R3.fc) (fx:=R3.fx) (sA:=R3.sA) (sc:=R3.sc) (tA:=R3.tA) (tc:=R3.tc) (rr:=(.blk b1 #[iV 0,.bool false,.bool false,.bool false,.bool false,.bool false,iV 0,iV 0,iV 0,iV 0,iV 0,iV 0,iV 0,iV 0,.slice none 0 0,.slice none 0 0,.slice none 0 0,iV 0] 40)::YU) hkn bY (by rw [<-Jd];rfl) G3 hn qc SS.more (λu hu=> .inl hu) (aI BF).symm G3.fly.symm mI;refine dH asL (ae6 (n:=x.nd.toNat) (q:=x.qu.toNat) (by have:=hxa.nd;omega) (by have:=hxa.qu;omega) (by have:=hxa.nd;omega) (by have:=hxa.qu;omega) rfl bY hu ax7 u6 (by omega) hxa BD) ?_;rintro _ Yz ⟨rfl,ak8⟩;refine ⟨_,rfl,?_⟩;have zh:=Wd.top ak8;refine zN 4 ?_;refine vv (v:=iV ((k2+1:Nat):Int)) gD ?_;refine zN 2 ?_;refine aN (k2+1,mm.act x) ?_ ⟨rfl,rfl,rfl,rfl,rfl,rfl,trivial⟩ (by first | omega | (dsimp only;omega));exact ⟨ak8,(by dsimp only;rw [aiu hx,ae9,<-IK]),(by dsimp only;exact JB u6 hxa (by omega)),(by dsimp only;exact ShN.act BD),(by dsimp only;omega),(Wd.top ak8)⟩
 refine zN 11 ?_;have hmm:mm=dZ.run l:=by rw [IK,List.take_of_length_le (by omega)]
 have qB:=u6;obtain ⟨R,G,S0⟩:=Rq.open hn;have NG:=G.kY n hn;obtain ⟨X,hX⟩: ∃ X,mm.ah n=X:=⟨_,rfl⟩;obtain ⟨z,hz⟩: ∃ z,R.nx n=z:=⟨_,rfl⟩;rw [hX,hz] at S0 NG;obtain ⟨rr,hrr⟩: ∃ r,gq K R mm fs n=r:=⟨_,rfl⟩;have hfr: ∀ f∈fs,f∈rr:=λf hf=>hrr▸List.mem_append_left _ hf;have vH:St B w0 ZO (cN kn n X z z.pv (cF kw R mm ((.blk b1 #[iV 0,.bool false,.bool false,.bool false,.bool false,.bool false,iV 0,iV 0,iV 0,iV 0,iV 0,iV 0,iV 0,iV 0,.slice none 0 0,.slice none 0 0,.slice none 0 0,iV 0] 40)::rr))):=by rw [<-hrr];subst hkn;subst bY;exact S0
 clear S0;have hcl:=qB.calls;have hfl:R.fx.length=mm.fly.length:=by rw [<-G.fly,List.length_map]
 refine zN 4 ?_;refine vv (v:= .agg (nN 0 (λ_=>false) (⟨⟨0,0⟩,⟨0,0⟩,⟨0,0⟩,⟨0,0⟩⟩:Dir) (.slice none 0 0) (.slice R.sA mm.aU.length R.sc) (.slice R.tA mm.bL.length R.tc) mm.calls)) (aj rfl rfl (aA (cs:=(nN 0 (λ_=>false) (⟨⟨0,0⟩,⟨0,0⟩,⟨0,0⟩,⟨0,0⟩⟩:Dir) (.slice none 0 0) (.slice R.sA mm.aU.length R.sc) (.slice R.tA mm.bL.length R.tc) mm.calls).toList) Tryz.underlying40 rfl uq rfl (St.rg 3 vH rfl aiw))) ?_;refine fF vH QX ?_;intro MC UL uy;refine stA 0 uy uq ?_ (h1:=by exact ajw (fl:=0) (U:=(λ_=>false)) (d:=(⟨⟨0,0⟩,⟨0,0⟩,⟨0,0⟩,⟨0,0⟩⟩:Dir)) (bv:= .slice none 0 0) (sv:= .slice R.sA mm.aU.length R.sc) (tv:= .slice R.tA mm.bL.length R.tc) (calls:=mm.calls) rfl rfl rfl);intro w52 za;refine zN 2 ?_;have mM:=za.dW [4,1];refine zQ ?_;have uS:=mM.drew;refine aF 13 uS [0] ?_;refine aJ 3 ?_;refine ak (v:= .slice R.fA R.fx.length R.fc) 3 rfl (St.del 0 uS) (λ_ ZF=>(aj rfl rfl (ay Tryz.underlying73 rfl (St.cl 0 ZF rfl Rk)))) ?_;refine aJ 4 ?_;refine ak (v:= .agg ((mm.off.cells).toArray)) 8 rfl (St.del 0 uS) (λ_ ZA=>(aj rfl rfl (aA (cs:=(mm.off.cells)) Tryz.underlying35 rfl oQ rfl (St.rg 0 ZA rfl (xM))))) ?_;refine bZ ?_;refine aW 10 ?_;refine snz 10 rfl 0 uS lH ?_ (hs:=by exact ax3);intro UK uz;refine aJ 2 ?_;refine aW 12 ?_;refine snz 12 rfl 0 uz oQ ?_ (h1:=vK _) (hs:=by exact ax4);intro w69 qg;refine aJ 2 ?_;refine zN 3 ?_;obtain ⟨ab,ao,qA⟩:=Bw G.arr qg (memT 9 rfl λf hf=>hrr▸List.mem_append_right _ (List.mem_append_right _ hf));refine zN 4 ?_;refine vv (v:= .slice R.nA 5 R.nc) (aj rfl rfl (ay Tryz.underlying72 rfl (St.cl 1 qg rfl zS))) ?_;refine zN 5 ?_;have rG:=qg.dW [7,7,7,4,7,7,7];have Fe:=St.shut (gs:=[.blk MC (nN R.fx.length (λ_=>false) mm.off (.slice none 0 0) (.slice R.sA mm.aU.length R.sc) (.slice R.tA mm.bL.length R.tc) mm.calls) 40,.blk b1 #[iV 0,.bool false,.bool false,.bool false,.bool false,.bool false,iV 0,iV 0,iV 0,iV 0,iV 0,iV 0,iV 0,iV 0,.slice none 0 0,.slice none 0 0,.slice none 0 0,iV 0] 40]) hn (by subst hkn;subst bY;rw [hX,hz,show gq K R mm fs n=rr from hrr];exact rG);have tT:=Fe.nil 44 1;obtain ⟨LC,hLC⟩: ∃ f,f=kS K R mm:=⟨_,rfl⟩;obtain ⟨LF,hLF⟩: ∃ f,f=fs++LC:=⟨_,rfl⟩;rw [<-hLC,<-hLF] at tT;refine dN (X:=Nat×(Nat->Bool)×(List (Nat×List BX))×(Option Addr)×Nat×(List Fact)) (λxv=>[(2,pV b1 0),(3,iV 0),(10,pV MC 0),(60,.slice R.nA 5 R.nc),(61,iV 5),(62,iV ((xv.1:Nat):Int))]) (λxv wr=>(xv.1<=5)/\(xv.2.2.1.length=xv.1)/\(∀ j p,xv.2.2.1[j]? =some p->P1 (xv.2.2.2.2.2++LC) mm j p)/\(∀ j,j<xv.1->xv.2.1 j=(mm.ah j).up)/\St B w0 wr ((.own 44 1 (.slice xv.2.2.2.1 xv.2.2.1.length xv.2.2.2.2.1) xv.2.2.1.length ((xv.2.2.1).flatMap fU))::(.blk MC (nN R.fx.length xv.2.1 mm.off (.slice xv.2.2.2.1 xv.2.2.1.length xv.2.2.2.2.1) (.slice R.sA mm.aU.length R.sc) (.slice R.tA mm.bL.length R.tc) mm.calls) 40)::(.blk b1 #[iV 0,.bool false,.bool false,.bool false,.bool false,.bool false,iV 0,iV 0,iV 0,iV 0,iV 0,iV 0,iV 0,iV 0,.slice none 0 0,.slice none 0 0,.slice none 0 0,iV 0] 40)::(xv.2.2.2.2.2++LF))) (λxv=>5-xv.1) (0,(λ_=>false),[],none,0,[]) ?_ ?_ ?_
 ·exact ⟨Nat.zero_le _,rfl,(λj p hp=>by simp at hp),(λj hj=>absurd hj (Nat.not_lt_zero _)),tT⟩
 ·exact ⟨rfl,rfl,rfl,rfl,rfl,rfl,trivial⟩
 rintro ⟨k,U9,ps,OA,oc,N9⟩ w74 ⟨apI,abt,af7,af8,Bb⟩
 try dsimp only at apI abt af7 af8 Bb
 refine bC (l':=[(2,pV b1 0),(3,iV 0),(10,pV MC 0),(60,.slice R.nA 5 R.nc),(61,iV 5),(62,iV ((k:Nat):Int))]) ⟨rfl,rfl,rfl,rfl,rfl,rfl,trivial⟩ ?_;have hk5:k<=5:=apI;refine zN 2 ?_;by_cases h80:((k:Nat):Int)<5
 ·refine zN 10 ?_;have hk4:k<5:=by omega
  have S9:=St.ax5 (n:=k) (gs:=[.own 44 1 (.slice OA ps.length oc) ps.length ((ps).flatMap fU),.blk MC (nN R.fx.length U9 mm.off (.slice OA ps.length oc) (.slice R.sA mm.aU.length R.sc) (.slice R.tA mm.bL.length R.tc) mm.calls) 40,.blk b1 #[iV 0,.bool false,.bool false,.bool false,.bool false,.bool false,iV 0,iV 0,iV 0,iV 0,iV 0,iV 0,iV 0,iV 0,.slice none 0 0,.slice none 0 0,.slice none 0 0,iV 0] 40]) (N:=N9) (fs:=fs) hk4 (by rw [<-hLC,<-hLF];exact Bb);obtain ⟨X3,BF⟩: ∃ X,mm.ah k=X:=⟨_,rfl⟩;obtain ⟨z3,hz3⟩: ∃ z,R.nx k=z:=⟨_,rfl⟩;obtain ⟨knk,af9⟩: ∃ b,K.nb k=b:=⟨_,rfl⟩;obtain ⟨rk,Nh⟩: ∃ r,fs++(lq K R mm k++R.L)=r:=⟨_,rfl⟩;have SS:=G.kY k hk4;rw [BF,hz3] at S9 SS;rw [Nh] at S9;have hLk: ∀ f∈R.L,f∈rk:=λf hf=>Nh▸List.mem_append_right _ (List.mem_append_right _ hf);have sN:St B w0 w74 (cN knk k X3 z3 z3.pv (cF kw R mm ((.own 44 1 (.slice OA ps.length oc) ps.length ((ps).flatMap fU))::(.blk MC (nN R.fx.length U9 mm.off (.slice OA ps.length oc) (.slice R.sA mm.aU.length R.sc) (.slice R.tA mm.bL.length R.tc) mm.calls) 40)::(.blk b1 #[iV 0,.bool false,.bool false,.bool false,.bool false,.bool false,iV 0,iV 0,iV 0,iV 0,iV 0,iV 0,iV 0,iV 0,.slice none 0 0,.slice none 0 0,.slice none 0 0,iV 0] 40)::(N9++rk)))):=by subst af9;subst bY;exact S9
  clear S9;refine zN 2 ?_;refine vv (v:=pV ab (ao+k*1)) (aO rfl rfl rfl (dD k qA Tryz.underlying72 acD (by omega) (by omega))) ?_;refine vv (v:=pV knk 0) (aj rfl rfl (ay Tryz.underlying80 rfl (af9▸vM (qA▸G.arr) hk4 sN (memT 10 rfl λf hf=>List.mem_append_right _ (hLk f hf))))) ?_;refine zN 12 ?_;refine vv (v:=pV MC (1+k*1)) (aO rfl rfl rfl (dL k Tryz.underlying30 Iq rfl hk4)) ?_;refine Co (cs:= #[.bool X3.up]) (row':=nN R.fx.length (upd U9 k X3.up) mm.off (.slice OA ps.length oc) (.slice R.sA mm.aU.length R.sc) (.slice R.tA mm.bL.length R.tc) mm.calls) (fs':=(_::_::_::_::_::_::_::_::(.blk MC (nN R.fx.length (upd U9 k X3.up) mm.off (.slice OA ps.length oc) (.slice R.sA mm.aU.length R.sc) (.slice R.tA mm.bL.length R.tc) mm.calls) 40)::_::(N9++rk))) 8 sN (wn rfl) rfl rfl rfl rfl rfl rfl Iq rfl (bX rfl) (by show 1+k*1+1<=18;omega) (ash hk4 (v:=X3.up)) rfl ?_;intro w82 Bg;refine zN 13 ?_
  rcases hup:X3.up with _ | _
  ·refine zN 4 ?_;refine vv (v:= .bool false) (Ou hup (aj rfl rfl (ay Tryz.underlying4 rfl (St.cl 0 Bg rfl rfl)))) ?_;refine zN 8 ?_;refine vv (aj rfl rfl (aA (cs:=[.slice z3.tA X3.data.length z3.tc,iV X3.syn]) Tryz.underlying83 rfl fD rfl (St.rg 0 Bg rfl (rP)))) ?_;have hrd:=(qB.kY k hk4).Mr;rw [BF] at hrd;refine dH anq (Hz z3.tA z3.tc X3.data X3.syn _ (SS.xO.rd Bg (memT 10 rfl λf hf=>List.mem_append_right _ (hLk f hf))) hrd.1 hrd.2.2.1) ?_;rintro _ w87 ⟨A84,c85,bB,bs,hbm,hbl,hbc,rfl,T86⟩;refine ⟨_,rfl,?_⟩;have Jv:=Bg.ext T86 (by simp [Kg,Fact.H8]);have Jo:St B w0 w87 ((oB bB bs)::(.cB 1 A84 ((jG X3.data X3.syn).1.length) (byteCells ((jG X3.data X3.syn).1)))::(cN knk k X3 z3 z3.pv (cF kw R mm ((.own 44 1 (.slice OA ps.length oc) ps.length ((ps).flatMap fU))::(.blk MC (nN R.fx.length (upd U9 k X3.up) mm.off (.slice OA ps.length oc) (.slice R.sA mm.aU.length R.sc) (.slice R.tA mm.bL.length R.tc) mm.calls) 40)::(.blk b1 #[iV 0,.bool false,.bool false,.bool false,.bool false,.bool false,iV 0,iV 0,iV 0,iV 0,iV 0,iV 0,iV 0,iV 0,.slice none 0 0,.slice none 0 0,.slice none 0 0,iV 0] 40)::((N9++rk)++fB bs))))):=St.perm Jv (List.Perm.cons _ (List.Perm.cons _ (List.perm_append_comm (l₁:=fB bs))));clear Bg;refine zN 10 ?_;refine bsI Jo ?_;intro b90 w91 ze;refine eB (news:=[.slice (aD bB 0) 4 4]) (xs':=((ps++[(bB,bs)])).flatMap fU) 10 ze (wn rfl) rfl rfl rfl rfl rfl rfl (St.lY (xs:=[.slice (aD bB 0) 4 4]) 0 ze rfl rfl rfl) Tryz.underlying36 acB rfl (by decide) (bX rfl) (by simp only [maxLen];omega) (by omega) (jO (enc:=fU) rfl rfl) ?_;intro A93 c94 w95 aBl aBm zC;refine zQ ?_;refine jw 11 zC abO ?_ (hs:=by exact ajx);intro w99 rY;refine zN 4 ?_;refine vv (v:=iV ((k+1:Nat):Int)) gD ?_;refine zN 2 ?_;have vY:=rY.aS [2,0];have tq:=vY.dW [0,10,10,10,10,10,10,10,10,10,10];have qK:St B w0 w99 ((.own 44 1 (.slice A93 (ps.length+1) c94) (ps.length+1) (((ps++[(bB,bs)])).flatMap fU))::(.blk MC (nN R.fx.length (upd U9 k X3.up) mm.off (.slice A93 (ps.length+1) c94) (.slice R.sA mm.aU.length R.sc) (.slice R.tA mm.bL.length R.tc) mm.calls) 40)::(.blk b1 #[iV 0,.bool false,.bool false,.bool false,.bool false,.bool false,iV 0,iV 0,iV 0,iV 0,iV 0,iV 0,iV 0,iV 0,.slice none 0 0,.slice none 0 0,.slice none 0 0,iV 0] 40)::(((oB bB bs)::(fB bs++N9))++LF)):=by
    rw [hLF,hLC];exact St.ajy (n:=k) (gs:=[.own 44 1 (.slice A93 (ps.length+1) c94) (ps.length+1) (((ps++[(bB,bs)])).flatMap fU),.blk MC (nN R.fx.length (upd U9 k X3.up) mm.off (.slice A93 (ps.length+1) c94) (.slice R.sA mm.aU.length R.sc) (.slice R.tA mm.bL.length R.tc) mm.calls) 40,.blk b1 #[iV 0,.bool false,.bool false,.bool false,.bool false,.bool false,iV 0,iV 0,iV 0,iV 0,iV 0,iV 0,iV 0,iV 0,.slice none 0 0,.slice none 0 0,.slice none 0 0,iV 0] 40,.own 43 6 (.slice (aD bB 0) 4 4) 4 ((bs).flatMap BX.cells)]) (N:=N9) (E:=fB bs) (fs:=fs) hk4 (by subst af9;subst bY;rw [BF,hz3];rw [<-Nh] at tq;exact tq)
   have U8:ps.length+1=(ps++[(bB,bs)]).length:=by simp
   rw [U8] at qK;refine aN (k+1,upd U9 k X3.up,(ps++[(bB,bs)]),A93,c94,(.own 43 6 (.slice (aD bB 0) 4 4) 4 ((bs).flatMap BX.cells)::(fB bs++N9))) ?_ ⟨rfl,rfl,rfl,rfl,rfl,rfl,trivial⟩ (by first | omega | (dsimp only;omega));exact ⟨(by dsimp only;omega),(by dsimp only;rw [List.length_append,abt];rfl),(by dsimp only;exact OC abt (λj p hp=>(af7 j p hp).mono (λf hf=>(List.mem_append.1 hf).elim (λh=>List.mem_append_left _ (List.mem_cons_of_mem _ (List.mem_append_right _ h))) λh=>List.mem_append_right _ h)) (aiy hbm hbc BF hup)),(by dsimp only;exact SV af8 BF),qK⟩
  refine zN 4 ?_;refine vv (v:= .bool true) (Ou hup (aj rfl rfl (ay Tryz.underlying4 rfl (St.cl 0 Bg rfl rfl)))) ?_;refine zN 10 ?_;refine bsI Bg ?_;intro aBn ao6 CP;refine eB (news:=[.slice (aD z3.bb 0) 4 4]) (xs':=((ps++[(z3.bb,z3.bx)])).flatMap fU) 8 CP (wn rfl) rfl rfl rfl rfl rfl rfl (St.lY (xs:=[.slice (aD z3.bb 0) 4 4]) 0 CP rfl rfl rfl) Tryz.underlying36 acB rfl (by decide) (bX rfl) (by simp only [maxLen];omega) (by omega) (jO (enc:=fU) rfl rfl) ?_;intro VQ VR ZB ayW ayX pK;refine zQ ?_;refine jw 9 pK abO ?_ (hs:=by exact ajx);intro afJ xJ;refine zN 4 ?_;refine vv (v:=iV ((k+1:Nat):Int)) gD ?_;refine zN 2 ?_;have og:=xJ.aS [0];have tu:=og.dW [9,9,9,9,9,9,9,9,9,9];have zT:St B w0 afJ ((.own 44 1 (.slice VQ (ps.length+1) VR) (ps.length+1) (((ps++[(z3.bb,z3.bx)])).flatMap fU))::(.blk MC (nN R.fx.length (upd U9 k X3.up) mm.off (.slice VQ (ps.length+1) VR) (.slice R.sA mm.aU.length R.sc) (.slice R.tA mm.bL.length R.tc) mm.calls) 40)::(.blk b1 #[iV 0,.bool false,.bool false,.bool false,.bool false,.bool false,iV 0,iV 0,iV 0,iV 0,iV 0,iV 0,iV 0,iV 0,.slice none 0 0,.slice none 0 0,.slice none 0 0,iV 0] 40)::(N9++LF)):=by
   rw [hLF,hLC];exact St.ajy (n:=k) (gs:=[.own 44 1 (.slice VQ (ps.length+1) VR) (ps.length+1) (((ps++[(z3.bb,z3.bx)])).flatMap fU),.blk MC (nN R.fx.length (upd U9 k X3.up) mm.off (.slice VQ (ps.length+1) VR) (.slice R.sA mm.aU.length R.sc) (.slice R.tA mm.bL.length R.tc) mm.calls) 40,.blk b1 #[iV 0,.bool false,.bool false,.bool false,.bool false,.bool false,iV 0,iV 0,iV 0,iV 0,iV 0,iV 0,iV 0,iV 0,.slice none 0 0,.slice none 0 0,.slice none 0 0,iV 0] 40]) (N:=N9) (E:=[]) (fs:=fs) hk4 (by subst af9;subst bY;rw [BF,hz3,List.append_nil];rw [<-Nh] at tu;exact tu)
  have U8:ps.length+1=(ps++[(z3.bb,z3.bx)]).length:=by simp
  rw [U8] at zT;refine aN (k+1,upd U9 k X3.up,(ps++[(z3.bb,z3.bx)]),VQ,VR,N9) ?_ ⟨rfl,rfl,rfl,rfl,rfl,rfl,trivial⟩ (by first | omega | (dsimp only;omega));exact ⟨(by dsimp only;omega),(by dsimp only;rw [List.length_append,abt];rfl),(by dsimp only;exact OC abt (λj p hp=>(af7 j p hp).mono (λf hf=>hf)) (hLC▸aix (G.kY k hk4) BF hz3 hup hk4)),(by dsimp only;exact SV af8 BF),zT⟩
 refine zN 13 ?_;refine stA 2 Bb uq ?_ (h1:=by exact ajw (fl:=R.fx.length) (U:=U9) (d:=mm.off) (bv:= .slice OA ps.length oc) (sv:= .slice R.sA mm.aU.length R.sc) (tv:= .slice R.tA mm.bL.length R.tc) (calls:=mm.calls) rfl rfl rfl);intro afV qL;refine zN 5 ?_;have hsf:BJ l=0:=apG;refine ⟨λh=>absurd hsf h,λ_=>?_⟩;have oI:=qL.aS [2,1];have h5:k=5:=by omega
 rw [hLF] at oI;refine ⟨_,[.own 44 1 (.slice OA ps.length oc) ps.length ((ps).flatMap fU)]++(N9++LC),rfl,?_,St.asi (gs:=[.own 44 1 (.slice OA ps.length oc) ps.length ((ps).flatMap fU)]) (N:=N9) (fs:=fs) (LC:=LC) oI⟩;rw [<-hmm];exact aiz (ps:=ps) G (by omega) (λj hj=>af8 j (by omega)) (List.mem_append_left _ (List.mem_singleton.2 rfl)) (λf hf=>List.mem_append_right _ (List.mem_append_right _ (hLC▸hf))) (λj p hp=>(af7 j p hp).mono λf hf=>List.mem_append_right _ hf)
theorem anj {B:Nat} {w0 w:World} {fs:List Fact} {A:Option Addr} {c:Nat} {l:List Ac} (h0:BJ l=0) (S:St B w0 w fs) (hu:Uk B w0) (AL:Ro fs 11 A l.length (l.flatMap Ac.cells)) (hb:l.length*88<=reachBytes):
  Calls Tryz.prog 14 #[.slice A l.length c] w (λe w'=> ∃ row L,e= .returned (.tuple #[.agg row,iV 0])/\V8 L (dZ.run l) row/\St B w0 w' (L++fs)):=(abr S hu AL hb).mono λ_ _ h=>h.2 h0
structure OX where
 fl:Nat
 U:Nat->Bool
 d:Dir
 BA:Option Addr
 bc:Nat
 sA:Option Addr
 sn:Nat
 sc:Nat
 tA:Option Addr
 tn:Nat
 tc:Nat
 calls:Nat
def OX.cells (x:OX):List Value:=FQ x.fl x.U x.d (.slice x.BA 5 x.bc) (.slice x.sA x.sn x.sc) (.slice x.tA x.tn x.tc) x.calls
structure Gy (L:List Fact) (m:Cl) (x:OX):Prop where
 up: ∀ j,j<5->x.U j=(m.ah j).up
 d:x.d=m.off
 fl:x.fl=m.fly.length
 sn:x.sn=m.aU.length
 tn:x.tn=m.bL.length
 calls:x.calls=m.calls
 ps: ∃ ps:List (Nat×List BX),ps.length=5/\Ro L 1 x.BA 5 (ps.flatMap fU)/\ ∀ j p,ps[j]? =some p->P1 L m j p
 aU:Ro L 14 x.sA x.sn (m.aU.flatMap kJ.cells)
 bL:Ro L 7 x.tA x.tn (m.bL.flatMap wM.cells)
theorem V8.x {L:List Fact} {m:Cl} {row:Array Value} (h:V8 L m row): ∃ x:OX,row=x.cells.toArray/\Gy L m x:=by
 obtain ⟨U,BA,bc,sA,sc,tA,tc,ps,rfl,hU,hl,hB,hs,ht,hP⟩:=h;exact ⟨⟨m.fly.length,U,m.off,BA,bc,sA,m.aU.length,sc,tA,m.bL.length,tc,m.calls⟩,rfl,hU,rfl,rfl,rfl,rfl,rfl,⟨ps,hl,hB,hP⟩,hs,ht⟩
theorem Gy.mono {L L':List Fact} {m:Cl} {x:OX} (h:Gy L m x) (hl: ∀ f∈L,f∈L'):Gy L' m x:=by
 obtain ⟨h1,h2,h3,h4,h5,h6,⟨ps,h7,h8,h9⟩,h10,h11⟩:=h;exact ⟨h1,h2,h3,h4,h5,h6,⟨ps,h7,h8.mono hl,λj p hj=>(h9 j p hj).mono hl⟩,h10.mono hl,h11.mono hl⟩
def YW (B:Nat) (w0:World) (fs:List Fact) (l:List Ac) (e:Ending) (w':World):Prop:= ∃ x L,e= .returned (.tuple #[.agg (OX.cells x).toArray,.bool true])/\Gy L (dZ.run l) x/\St B w0 w' (L++fs)
theorem aiA {α:Type} {l:List α} (h:l.length=5): ∃ a b c d e,l=[a,b,c,d,e]:=by
 match l,h with
 | [a,b,c,d,e],_=>exact ⟨a,b,c,d,e,rfl⟩
theorem abu {B:Nat} {w0 w:World} {fs:List Fact} {A:Option Addr} {c:Nat} {l:List Ac} (h0:BJ l=0) (S:St B w0 w fs) (hu:Uk B w0) (AL:Ro fs 11 A l.length (l.flatMap Ac.cells)) (hb:l.length*88<=reachBytes):
    Calls Tryz.prog 12 #[.slice A l.length c] w (YW B w0 fs l):=by
 refine gu 28 Tryz.func12 ?_;refine cw [0] ?_;refine zN 2 ?_;refine fF S QX ?_;intro b1 w2 S3;refine zN 6 ?_;refine dH asH (anj h0 S3 hu (AL.mono (memT 1 rfl dQ)) hb) ?_;rintro _ w4 ⟨aBo,L8,rfl,hO9,S5⟩;refine ⟨_,rfl,?_⟩;obtain ⟨x,rfl,hX⟩:=V8.x hO9;obtain ⟨ps,hpl,Cj,hP⟩:=hX.ps;obtain ⟨p0,p1,p2,p3,p4,rfl⟩:=aiA hpl;have S6:=S5.perm (List.perm_middle (a:= .blk b1 #[iV 0,.bool false,.bool false,.bool false,.bool false,.bool false,iV 0,iV 0,iV 0,iV 0,iV 0,iV 0,iV 0,iV 0,.slice none 0 0,.slice none 0 0,.slice none 0 0,iV 0] 40) (l₁:=L8) (l₂:=fs));have nQ: ∀ f∈L8,f∈L8++fs:=λf h=>List.mem_append_left _ h;obtain ⟨bA,oA,hBa⟩:=pF Cj S6 (memT 1 rfl nQ) (by decide);refine zN 3 ?_;refine fF S6 QX ?_;intro b10 Jp mJ;refine stA 0 mJ uq ?_;intro DT kr;refine zN 4 ?_;have gJ:=kr.drew;refine aF 19 gJ [1] ?_;refine aJ 12 ?_;refine jg (v:= .pointer (some ⟨bA,oA+0*1,none⟩)) (i:=12) (n:=6) rfl (by kernel_rfl) (by kernel_rfl) (by kernel_rfl) (St.del 1 gJ) rfl (wg rfl rfl rfl rfl) rfl rfl (λ_ _=>(aO rfl rfl rfl (dD 0 hBa Tryz.underlying36 sJ (by decide) (by decide)))) ?_;refine jg (v:= .slice (some ⟨p0.1,0,none⟩) 4 4) (i:=13) (n:=5) rfl (by kernel_rfl) (by kernel_rfl) (by kernel_rfl) (St.del 1 gJ) rfl (wg rfl rfl rfl rfl) rfl rfl (λ_ aaY=>(aj rfl rfl (ay Tryz.underlying44 rfl (fJ Cj hBa aaY (memT 1 rfl nQ) rfl)))) ?_;refine aJ 3 ?_;refine aW 17 ?_;refine Zv 17 rfl 1 gJ uq ?_;intro Zy qJ;refine aJ 3 ?_;refine zN 3 ?_;have nW:=qJ.aS [1,0];exact ⟨x,L8,rfl,hX,nW⟩
def OD (b:bK):Bool:=decide (b.role=1\/b.role=2)
theorem FR {b:bK}:OD b=true↔serves b:=by unfold OD serves;simp
theorem CS {L:List Fact} {m:Cl} {j q:Nat} {p:Nat×List BX} (h:P1 L m j p) (hq:q<4): ∃ y,p.2[q]? =some y/\y.b=(m.ah j).view q:=by
 have hb:=h.bm;have hv:(vB (m.ah j).view)[q]? =some ((m.ah j).view q):=by
  have h4:q=0\/q=1\/q=2\/q=3:=by omega
  rcases h4 with rfl | rfl | rfl | rfl<;>rfl
 rw [<-hb,List.getElem?_map] at hv
 cases h1:p.2[q]? with
 | none=>rw [h1] at hv;cases hv
 | some y=>rw [h1] at hv;exact ⟨y,rfl,Option.some.inj hv⟩
theorem ji (y:BX) (w:World):
    Calls tP 10 #[.agg (bR y.b y.A y.c)] w (λe w'=>e= .returned (.bool (OD y.b))/\Below w.heap.size w w'):=by
 have S:=St.start w;refine GU (N:=11) (vs:=[.agg (bR y.b y.A y.c)]) Tryz.func10 rfl rfl rfl ?_;refine cw [0] ?_;refine as7 (nb (row:=(bR y.b y.A y.c)) S ?_);intro b1 w2 S3;clear S;refine va ?_;refine qk [1,2] ?_;refine Vs (vv (vR 0 Nr) ?_);refine vv (aj rfl rfl (ay Tryz.underlying3 rfl (St.cl 0 S3 rfl rfl))) ?_;by_cases h4:y.b.role=1
 ·refine vv (ai1 h4) ?_;refine vm ?_;iterate 3 refine vs ?_
  refine vv ypT ?_;refine va ?_;refine qk [2] ?_;refine ajI (pt ?_);rw [show OD y.b=true from by unfold OD;first | exact decide_eq_true (by omega) | exact decide_eq_false (by omega)];exact ⟨rfl,S3.low⟩
 refine vv (abV h4) ?_;refine vm ?_;refine vg (vR 0 Nr) ?_;refine vg (aj rfl rfl (ay Tryz.underlying3 rfl (St.cl 0 S3 rfl rfl))) ?_;by_cases h5:y.b.role=2
 ·refine vg (ai1 h5) ?_;refine vv ypF ?_;refine va ?_;refine qk [2] ?_;refine ajI (pt ?_);rw [show OD y.b=true from by unfold OD;first | exact decide_eq_true (by omega) | exact decide_eq_false (by omega)];exact ⟨rfl,S3.low⟩
 refine vg (abV h5) ?_;refine vv ypF ?_;refine va ?_;refine qk [2] ?_;refine ajI (pt ?_);rw [show OD y.b=false from by unfold OD;first | exact decide_eq_true (by omega) | exact decide_eq_false (by omega)];exact ⟨rfl,S3.low⟩
def om (b:bK):Prop:=serves b\/b.role=3
structure AO (m:Cl) (q o:Nat):Prop where
 lt:o<5
 me:om ((m.ah o).view q)
 uU: ∀ n,n<5->n≠o->om ((m.ah n).view q)->((m.ah n).view q).ep< ((m.ah o).view q).ep
def xX (m:Cl) (q o n:Nat) (a:Int) (one:Bool):Prop:=(a= -1/\ ∀ j,j<n-> ¬ om ((m.ah j).view q))\/ ∃ k:Nat,a=((k:Nat):Int)/\k<n/\om ((m.ah k).view q)/\(∀ j,j<n->om ((m.ah j).view q)->((m.ah j).view q).ep<=((m.ah k).view q).ep)/\(o<n->k=o/\one=true)
section
variable {m:Cl} {q o n:Nat} {a:Int} {one:Bool}
theorem xX.first (h:xX m q o n a one) (hA:AO m q o) (ha:a<0) (hc:om ((m.ah n).view q)):xX m q o (n+1) ((n:Nat):Int) true:=by
 rcases h with ⟨h1,h2⟩ | ⟨k,h1,h2,h3,h4,h5⟩
 ·exact .inr ⟨n,rfl,by omega,hc,λj hj hcj=>(Nat.lt_succ_iff_lt_or_eq.1 hj).elim (λh=>absurd hcj (h2 j h)) (λe=>e▸Int.le_refl _),λh=>⟨(Nat.lt_succ_iff_lt_or_eq.1 h).elim (λh=>absurd hA.me (h2 o h)) Eq.symm,rfl⟩⟩
 omega
theorem xX.more {k:Nat} (h:xX m q o n ((k:Nat):Int) one) (hA:AO m q o) (hn:n<5) (hc:om ((m.ah n).view q)) (hg:((m.ah k).view q).ep< ((m.ah n).view q).ep):xX m q o (n+1) ((n:Nat):Int) true:=by
 rcases h with ⟨h1,h2⟩ | ⟨k',h1,h2,h3,h4,h5⟩
 ·omega
 obtain rfl:k=k':=by omega
 refine .inr ⟨n,rfl,by omega,hc,λj hj hcj=>(Nat.lt_succ_iff_lt_or_eq.1 hj).elim (λh=>by have:=h4 j h hcj;omega) (λe=>e▸Int.le_refl _),λh=>⟨?_,rfl⟩⟩
 rcases Nat.lt_succ_iff_lt_or_eq.1 h with h | h
 ·exfalso
  obtain ⟨rfl,_⟩:=h5 h;by_cases e:n=k
  ·omega
  have:=hA.uU n hn e hc;omega
 exact h.symm
theorem xX.done (h:xX m q o 5 a one) (hA:AO m q o):a=((o:Nat):Int)/\one=true:=by
 rcases h with ⟨h1,h2⟩ | ⟨k,h1,h2,h3,h4,h5⟩
 ·exact absurd hA.me (h2 o hA.lt)
 obtain ⟨rfl,h6⟩:=h5 hA.lt;exact ⟨h1,h6⟩
end
theorem afa {l:List Ac} (h: ∀ a∈l,dz a=0) (hl:l.length<=1000):BJ l=0:=by
 rw [Pn (by omega)];clear hl
 induction l with
 | nil=>rfl
 | cons a l ih=>rw [vO,if_neg (by rw [h a List.mem_cons_self];simp),ih λx hx=>h x (List.mem_cons_of_mem _ hx)]
theorem afb {B k:Nat} {w0 w:World} {fs gs:List Fact} {A:Option Addr} {l:List Ac} (hk:k<=l.length) (hl:l.length<=1000) (h0: ∀ a∈l,dz a=0) (S:St B w0 w fs) (hu:Uk B w0) (hA:Ro gs 11 A k ((l.take k).flatMap Ac.cells)) (hgs: ∀ f∈gs,f∈fs):
  Calls Tryz.prog 12 #[.slice A k k] w (YW B w0 fs (l.take k)):=by
 have hn:(l.take k).length=k:=by rw [List.length_take];omega
 have h:=abu (c:=k) (l:=l.take k) (A:=A) (afa (λa ha=>h0 a (List.mem_of_mem_take ha)) (by omega)) S hu;rw [hn] at h;exact h (hA.mono hgs) (by unfold reachBytes;omega)
theorem afc {xs:List OX} {LL L1:List Fact} {l:List Ac} {k:Nat} {x:OX} (h0:xs.length=k) (h: ∀ j y,xs[j]? =some y->Gy LL (dZ.run (l.take j)) y) (hx:Gy L1 (dZ.run (l.take k)) x): ∀ j y,(xs++[x])[j]? =some y->Gy (L1++LL) (dZ.run (l.take j)) y:=by
 intro j y hj
 rcases Nat.lt_or_ge j xs.length with h1 | h1
 ·rw [List.getElem?_append_left h1] at hj;exact (h j y hj).mono λf hf=>List.mem_append_right _ hf
 rw [List.getElem?_append_right h1] at hj;have h2:j-xs.length=0:=by
  have:=(List.getElem?_eq_some_iff.1 hj).1;simp at this;omega
 rw [h2] at hj
 cases hj;obtain rfl:j=k:=by omega
 exact hx.mono λf hf=>List.mem_append_left _ hf
def aiB (B:Nat) (w0:World) (fs:List Fact) (l:List Ac) (e:Ending) (w':World):Prop:= ∃ (xs:List OX) (L:List Fact) (A':Option Addr) (c':Nat),e= .returned (.tuple #[.slice A' (l.length+1) c',.bool true])/\xs.length=l.length+1/\(∀ k x,xs[k]? =some x->Gy L (dZ.run (l.take k)) x)/\St B w0 w' (.own 40 18 (.slice A' (l.length+1) c') (l.length+1) (xs.flatMap OX.cells)::(L++fs))
theorem qp {B:Nat} {w0 w:World} {fs:List Fact} {A:Option Addr} {c:Nat} {l:List Ac} (hl:l.length<=1000) (hc:l.length<=c) (h0: ∀ a∈l,dz a=0) (S:St B w0 w fs) (hu:Uk B w0) (AL:Ro fs 11 A l.length (l.flatMap Ac.cells)):
    Calls Tryz.prog 7 #[.slice A l.length c] w (aiB B w0 fs l):=by
 refine gu 29 Tryz.func7 ?_;refine cw [0] ?_;refine zN 7 ?_;have S1:=S.nil 40 18;change St _ _ _ ((.own 40 18 (.slice none 0 0) 0 ((([]:List OX)).flatMap OX.cells))::fs) at S1;refine zN 11 ?_;refine dN (X:=Nat×(Option Addr)×Nat×(List OX)×(List Fact)) (λxv=>[(0,.slice A l.length c),(2,.slice none 0 0),(3,.bool false),(4,.slice xv.2.1 xv.1 xv.2.2.1),(5,iV ((xv.1:Nat):Int))]) (λxv wr=>(xv.1<=l.length+1)/\(xv.2.2.2.1.length=xv.1)/\(∀ j y,xv.2.2.2.1[j]? =some y->Gy xv.2.2.2.2 (dZ.run (l.take j)) y)/\St B w0 wr ((.own 40 18 (.slice xv.2.1 xv.1 xv.2.2.1) xv.1 ((xv.2.2.2.1).flatMap OX.cells))::(xv.2.2.2.2++fs))) (λxv=>l.length+1-xv.1) (0,none,0,[],[]) ?_ ?_ ?_
 ·exact ⟨Nat.zero_le _,rfl,(λj y h=>by simp at h),S1⟩
 ·exact ⟨rfl,rfl,rfl,rfl,rfl,trivial⟩
 rintro ⟨k,Ab,cb,xs,LL⟩ w2 ⟨hi4,hi5,FL,S3⟩
 try dsimp only at hi4 hi5 FL S3
 refine bC (l':=[(0,.slice A l.length c),(2,.slice none 0 0),(3,.bool false),(4,.slice Ab k cb),(5,iV ((k:Nat):Int))]) ⟨rfl,rfl,rfl,rfl,rfl,trivial⟩ (aK (aK (aC (vm ?_))));refine zN 2 ?_;by_cases h7:((k:Nat):Int)<=((l.length:Nat):Int)
 ·refine zN 9 ?_;obtain ⟨A2,hs,hr,-⟩:=Ch (P:=Tryz.prog) (t:=26) (enc:=Ac.cells) (s:=11) (λ_=>rfl) (A:=A) (b:=l) (n:=l.length) (c:=c) (lo:=none) (hi:=(some (iV ((k:Nat):Int)))) (mx:=(some (iV ((k:Nat):Int)))) (l:=0) (k:=k) (q:=k) (m:=k) (c':=k) Tryz.underlying26 kg (abN k k rfl rfl (by omega) (by omega)) (by omega) (by omega) (by omega) (by omega) (by omega);have hA2:Ro fs 11 A2 k ((l.take k).flatMap Ac.cells):=λB w hw=>hr w _ (AL B w hw);refine zN 4 ?_;refine vv (v:= .slice A2 k k) (jH rfl rfl mh (iY rfl) (iY rfl) (hs _)) ?_;refine dH asG (afb (by omega) hl h0 S3 hu hA2 (λf hf=>List.mem_cons_of_mem _ (List.mem_append_right _ hf))) ?_;rintro _ w8 ⟨gY,L12,rfl,ax8,S9⟩;refine ⟨_,rfl,?_⟩;have oG:=S9.perm (List.perm_middle (a:= .own 40 18 (.slice Ab k cb) k ((xs).flatMap OX.cells)) (l₁:=L12) (l₂:=LL++fs));rw [<-List.append_assoc] at oG;refine zN 3 ?_;refine fF oG QX ?_;intro b14 Gl kN;refine stA 0 kN uq ?_;intro Jq iL;refine zN 16 ?_;refine lN (V:=λb=> .slice (some ⟨b,0,none⟩) 1 1) (row:= #[iV ((gY.fl:Nat):Int),.bool (gY.U 0),.bool (gY.U 1),.bool (gY.U 2),.bool (gY.U 3),.bool (gY.U 4),iV gY.d.p0.node,iV gY.d.p0.epoch,iV gY.d.p1.node,iV gY.d.p1.epoch,iV gY.d.p2.node,iV gY.d.p2.epoch,iV gY.d.p3.node,iV gY.d.p3.epoch,.slice gY.BA 5 gY.bc,.slice gY.sA gY.sn gY.sc,.slice gY.tA gY.tn gY.tc,iV ((gY.calls:Nat):Int)]) (t:=40) iL (wn rfl) rfl rfl (aV (vs:=[(0,.agg #[iV ((gY.fl:Nat):Int),.bool (gY.U 0),.bool (gY.U 1),.bool (gY.U 2),.bool (gY.U 3),.bool (gY.U 4),iV gY.d.p0.node,iV gY.d.p0.epoch,iV gY.d.p1.node,iV gY.d.p1.epoch,iV gY.d.p2.node,iV gY.d.p2.epoch,iV gY.d.p3.node,iV gY.d.p3.epoch,.slice gY.BA 5 gY.bc,.slice gY.sA gY.sn gY.sc,.slice gY.tA gY.tn gY.tc,iV ((gY.calls:Nat):Int)])]) rfl ⟨rfl,rfl,trivial⟩ (by kernel_rfl)) ?_;intro b19 UN rM;clear iL;refine eB (news:=[iV ((gY.fl:Nat):Int),.bool (gY.U 0),.bool (gY.U 1),.bool (gY.U 2),.bool (gY.U 3),.bool (gY.U 4),iV gY.d.p0.node,iV gY.d.p0.epoch,iV gY.d.p1.node,iV gY.d.p1.epoch,iV gY.d.p2.node,iV gY.d.p2.epoch,iV gY.d.p3.node,iV gY.d.p3.epoch,.slice gY.BA 5 gY.bc,.slice gY.sA gY.sn gY.sc,.slice gY.tA gY.tn gY.tc,iV ((gY.calls:Nat):Int)]) (xs':=(xs++[gY]).flatMap OX.cells) 2 rM (wn rfl) rfl rfl rfl rfl rfl rfl (St.lY (xs:=[iV ((gY.fl:Nat):Int),.bool (gY.U 0),.bool (gY.U 1),.bool (gY.U 2),.bool (gY.U 3),.bool (gY.U 4),iV gY.d.p0.node,iV gY.d.p0.epoch,iV gY.d.p1.node,iV gY.d.p1.epoch,iV gY.d.p2.node,iV gY.d.p2.epoch,iV gY.d.p3.node,iV gY.d.p3.epoch,.slice gY.BA 5 gY.bc,.slice gY.sA gY.sn gY.sc,.slice gY.tA gY.tn gY.tc,iV ((gY.calls:Nat):Int)]) 0 rM rfl rfl rfl) Tryz.underlying23 aly rfl (by decide) (bX rfl) (by simp only [maxLen];omega) (by omega) (jO (enc:=OX.cells) rfl rfl) ?_;intro A22 c23 Mw aBp aBq jA;refine zN 6 ?_;refine vv (v:=iV ((k+1:Nat):Int)) gD ?_;refine zN 2 ?_;have rH:=jA.aS [1,0];refine aN (k+1,A22,c23,xs++[gY],L12++LL) ?_ ⟨rfl,rfl,rfl,rfl,rfl,trivial⟩ (by first | omega | (dsimp only;omega));exact ⟨(by dsimp only;omega),(by rw [List.length_append,hi5];rfl),(afc hi5 FL ax8),rH⟩
 refine zN 18 ?_;obtain rfl:k=l.length+1:=by omega
 exact ⟨xs,LL,Ab,cb,rfl,hi5,FL,S3⟩
theorem ac7 {P:Program} {t:TypeId} {xo yo:Operand} {w:World} {a b:Int} (ha:0<=a) (hb:0<b):(do eqGuard .rem t xo yo (iV a) (iV b);binOp .rem t (iV a) (iV b):Sem Value).run P w= .ok (iV (a % b)) w:=by
 obtain ⟨k,rfl⟩:=Int.eq_ofNat_of_zero_le ha;obtain ⟨m,rfl⟩:=Int.eq_ofNat_of_zero_le (Int.le_of_lt hb);exact U3 (c:=k % m) rfl (by omega)
theorem asj {P:Program} {w:World} {x:Int} (h: -9223372036854775807<=x/\x<=9223372036854775807):(Op.unary .neg (iV x)).run P w= .ok (iV (-x)) w:=by
 simp [Op.unary,Op.intArith,Int.zero_sub,wrap64_in (z:= -x) (by omega) (by omega)]
def aX (n m:Int):Int:=(if n<0 then-(n+1) else n) % m
theorem pG {n m:Int} (hm:0<m):0<=aX n m/\aX n m<m:=⟨Int.emod_nonneg _ (by omega),Int.emod_lt_of_pos _ hm⟩
def mR (k a b c:Int):Ev:=
 if aX k 8<3 then ⟨1,aX a 2,aX b 24,aX c 1000,0,0⟩ else if aX k 8<5 then ⟨2,0,0,0,0,0⟩
 else if aX k 8<7 then ⟨3,0,0,0,aX a 3,aX b 6⟩ else ⟨4,0,0,0,0,0⟩
structure Gr where
 kd:Int
 a:Int
 b:Int
 c:Int
 d:Int
def Gr.cells (g:Gr):List Value:=[iV g.kd,iV g.a,iV g.b,iV g.c,iV g.d]
def KZ (x:Int):Prop:= -9223372036854775808<=x/\x<=9223372036854775807
def Gr.ok (g:Gr):Prop:=KZ g.kd/\KZ g.a/\KZ g.b/\KZ g.c/\KZ g.d
def V9 (g:Gr) (e:Ev):Ac:=⟨2,aX g.a 3,aX g.b 2,0,0,if e.kind=4 then 2 else e.kind,e.producer,e.id,e.body,e.aR,e.hno⟩
def gH (g:Gr) (cr:Bool):Ac:=
 if aX g.kd 24<7 then V9 g (mR g.c g.a g.d g.d)
 else if aX g.kd 24<13 then ⟨3,aX g.a 3,0,0,0,0,0,0,0,0,0⟩
 else if aX g.kd 24=13 then ⟨4,0,0,aX g.c 20,0,0,0,0,0,0,0⟩
 else if aX g.kd 24=14 then ⟨5,0,0,aX g.c 20,0,0,0,0,0,0,0⟩
 else if aX g.kd 24=15 then ⟨6,0,0,aX g.c 20,0,0,0,0,0,0,0⟩
 else if aX g.kd 24=16 then ⟨10,aX g.a 3,aX g.b 2,0,0,0,0,0,0,0,0⟩
 else if aX g.kd 24=17/\cr=true then ⟨8,aX g.a 3,0,0,aX g.c 120,0,0,0,0,0,0⟩
 else if aX g.kd 24=18/\cr=true then ⟨9,aX g.a 3,0,0,0,0,0,0,0,0,0⟩
 else ⟨7,0,0,0,0,0,0,0,0,0,0⟩
theorem fH {n m:Int} (hn: -9223372036854775808<=n/\n<=9223372036854775807) (hm:0<m) (w:World):
    Calls Tryz.prog 21 #[iV n,iV m] w (λe w'=>e= .returned (iV (aX n m))/\w'=w):=by
 have S:=St.start w;refine gu 13 Tryz.func21 ?_;refine cw [0,1] ?_;refine zN 9 ?_;by_cases h1:n<0
 ·refine zN 6 ?_;refine vv (v:=iV (n+1)) gD ?_;refine vv (v:=iV (-(n+1))) (acu rfl rfl (asj (by omega))) ?_;refine zN 7 ?_;refine vv (v:=iV ((-(n+1)) % m)) (aL rfl rfl rfl (ac7 (by omega) hm)) ?_;refine zN 5 ?_;rw [show aX n m=((-(n+1)) % m) from by unfold aX;first | rw [if_pos (by omega)] | rw [if_neg (by omega)]];exact ⟨rfl,rfl⟩
 refine zN 10 ?_;refine vv (v:=iV (n % m)) (aL rfl rfl rfl (ac7 (by omega) hm)) ?_;refine zN 5 ?_;rw [show aX n m=(n % m) from by unfold aX;first | rw [if_pos (by omega)] | rw [if_neg (by omega)]];exact ⟨rfl,rfl⟩
theorem lD {n m:Int} (hn: -9223372036854775808<=n/\n<=9223372036854775807) (hm:0<m) (w:World):
    Calls Tryz.prog 15 #[iV n,iV m] w (λe w'=>e= .returned (iV (aX n m))/\w'=w):=by
 have S:=St.start w;refine gu 8 Tryz.func15 ?_;refine cw [0,1] ?_;refine zN 9 ?_;refine dH zK (fH hn hm _) ?_;rintro _ w1 ⟨rfl,rfl⟩;refine ⟨_,rfl,?_⟩;refine zN 5 ?_;exact ⟨rfl,rfl⟩
theorem Uq {k a b c:Int} (h1:KZ k) (h2:KZ a) (h3:KZ b) (h4:KZ c) (w:World):
    Calls Tryz.prog 22 #[.agg #[iV k,iV a,iV b,iV c]] w (λe w'=>e= .returned (.agg (Ev.cells (mR k a b c)).toArray)/\Below w.heap.size w w'):=by
 have S:=St.start w;refine gu 36 Tryz.func22 ?_;refine cw [0] ?_;refine zN 2 ?_;refine iK S ?_;intro b1 w2 S3;refine fF S3 Zt ?_;intro b4 w5 S6;refine zQ ?_;refine UE (vv (vR 0 Ya) ?_);refine zQ ?_;refine dH zK (fH (m:=8) h1 (by decide) _) ?_;rintro _ w7 ⟨rfl,rfl⟩;refine ⟨_,rfl,?_⟩;refine zN 5 ?_;have hp:=pG (n:=k) (m:=8) (by decide);refine zQ ?_;by_cases h8:(aX k 8)=0
 ·refine zN 9 ?_;have S9:=S6.drew;refine fq 11 10 S9 [] ?_;refine gk (v:= .pointer (some ⟨b1,1,none⟩)) 0 rfl S9 (λ_ _=>vR _ Aq) ?_;refine gM ?_;refine gk (v:= .pointer (some ⟨b1,2,none⟩)) 3 rfl S9 (λ_ _=>vR _ Ar) ?_;refine gM ?_;refine gk (v:= .pointer (some ⟨b1,3,none⟩)) 6 rfl S9 (λ_ _=>vR _ Ir) ?_;refine gM ?_;refine eU (m:=4) (r:=2) (by kernel_rfl) ?_;refine kR (i:=2) rfl rfl (wn rfl) rfl rfl (iB (vs:=[iV a,iV 2]) rfl zK ⟨rfl,rfl,trivial⟩) (fH (m:=2) h2 (by decide) _) ?_;rintro _ w16 ⟨rfl,rfl⟩;refine ⟨_,rfl,?_⟩;refine gM ?_;refine eU (m:=3) (r:=5) (by kernel_rfl) ?_;refine kR (i:=5) rfl rfl (wn rfl) rfl rfl (iB (vs:=[iV b,iV 24]) rfl zK ⟨rfl,rfl,trivial⟩) (fH (m:=24) h3 (by decide) _) ?_;rintro _ Jq ⟨rfl,rfl⟩;refine ⟨_,rfl,?_⟩;refine gM ?_;refine eU (m:=2) (r:=8) (by kernel_rfl) ?_;refine kR (i:=8) rfl rfl (wn rfl) rfl rfl (iB (vs:=[iV c,iV 1000]) rfl zK ⟨rfl,rfl,trivial⟩) (fH (m:=1000) h4 (by decide) _) ?_;rintro _ Nz ⟨rfl,rfl⟩;refine ⟨_,rfl,?_⟩;refine gM ?_;refine gk (v:= .agg #[iV 1,iV (aX a 2),iV (aX b 24),iV (aX c 1000),iV 0,iV 0]) 9 rfl S9 (λ_ _=>gF) ?_;refine dY (by kernel_rfl) rfl rfl rfl ?_;refine sa 0 S9 iE ?_;intro UN rM;refine zQ ?_;refine iP ?_;refine zN 5 ?_;rw [show mR k a b c=⟨1,(aX a 2),(aX b 24),(aX c 1000),0,0⟩ from by unfold mR;first | rw [if_pos (by omega)] | rw [if_neg (by omega),if_pos (by omega)] | rw [if_neg (by omega),if_neg (by omega),if_pos (by omega)] | rw [if_neg (by omega),if_neg (by omega),if_neg (by omega)]];exact ⟨rfl,rM.low⟩
 refine zN 7 ?_;by_cases h22:(aX k 8)=1
 ·refine zN 9 ?_;have lV:=S6.drew;refine fq 11 10 lV [] ?_;refine gk (v:= .pointer (some ⟨b1,1,none⟩)) 0 rfl lV (λ_ _=>vR _ Aq) ?_;refine gM ?_;refine gk (v:= .pointer (some ⟨b1,2,none⟩)) 3 rfl lV (λ_ _=>vR _ Ar) ?_;refine gM ?_;refine gk (v:= .pointer (some ⟨b1,3,none⟩)) 6 rfl lV (λ_ _=>vR _ Ir) ?_;refine gM ?_;refine eU (m:=4) (r:=2) (by kernel_rfl) ?_;refine kR (i:=2) rfl rfl (wn rfl) rfl rfl (iB (vs:=[iV a,iV 2]) rfl zK ⟨rfl,rfl,trivial⟩) (fH (m:=2) h2 (by decide) _) ?_;rintro _ RS ⟨rfl,rfl⟩;refine ⟨_,rfl,?_⟩;refine gM ?_;refine eU (m:=3) (r:=5) (by kernel_rfl) ?_;refine kR (i:=5) rfl rfl (wn rfl) rfl rfl (iB (vs:=[iV b,iV 24]) rfl zK ⟨rfl,rfl,trivial⟩) (fH (m:=24) h3 (by decide) _) ?_;rintro _ Yx ⟨rfl,rfl⟩;refine ⟨_,rfl,?_⟩;refine gM ?_;refine eU (m:=2) (r:=8) (by kernel_rfl) ?_;refine kR (i:=8) rfl rfl (wn rfl) rfl rfl (iB (vs:=[iV c,iV 1000]) rfl zK ⟨rfl,rfl,trivial⟩) (fH (m:=1000) h4 (by decide) _) ?_;rintro _ w32 ⟨rfl,rfl⟩;refine ⟨_,rfl,?_⟩;refine gM ?_;refine gk (v:= .agg #[iV 1,iV (aX a 2),iV (aX b 24),iV (aX c 1000),iV 0,iV 0]) 9 rfl lV (λ_ _=>gF) ?_;refine dY (by kernel_rfl) rfl rfl rfl ?_;refine sa 0 lV iE ?_;intro YI sO;refine zQ ?_;refine iP ?_;refine zN 5 ?_;rw [show mR k a b c=⟨1,(aX a 2),(aX b 24),(aX c 1000),0,0⟩ from by unfold mR;first | rw [if_pos (by omega)] | rw [if_neg (by omega),if_pos (by omega)] | rw [if_neg (by omega),if_neg (by omega),if_pos (by omega)] | rw [if_neg (by omega),if_neg (by omega),if_neg (by omega)]];exact ⟨rfl,sO.low⟩
 refine zN 6 ?_;by_cases zk:(aX k 8)=2
 ·refine zN 6 ?_;have l6:=S6.drew;refine fq 11 10 l6 [] ?_;refine gk (v:= .pointer (some ⟨b1,1,none⟩)) 0 rfl l6 (λ_ _=>vR _ Aq) ?_;refine gM ?_;refine gk (v:= .pointer (some ⟨b1,2,none⟩)) 3 rfl l6 (λ_ _=>vR _ Ar) ?_;refine gM ?_;refine gk (v:= .pointer (some ⟨b1,3,none⟩)) 6 rfl l6 (λ_ _=>vR _ Ir) ?_;refine gM ?_;refine eU (m:=4) (r:=2) (by kernel_rfl) ?_;refine kR (i:=2) rfl rfl (wn rfl) rfl rfl (iB (vs:=[iV a,iV 2]) rfl zK ⟨rfl,rfl,trivial⟩) (fH (m:=2) h2 (by decide) _) ?_;rintro _ RQ ⟨rfl,rfl⟩;refine ⟨_,rfl,?_⟩;refine gM ?_;refine eU (m:=3) (r:=5) (by kernel_rfl) ?_;refine kR (i:=5) rfl rfl (wn rfl) rfl rfl (iB (vs:=[iV b,iV 24]) rfl zK ⟨rfl,rfl,trivial⟩) (fH (m:=24) h3 (by decide) _) ?_;rintro _ w45 ⟨rfl,rfl⟩;refine ⟨_,rfl,?_⟩;refine gM ?_;refine eU (m:=2) (r:=8) (by kernel_rfl) ?_;refine kR (i:=8) rfl rfl (wn rfl) rfl rfl (iB (vs:=[iV c,iV 1000]) rfl zK ⟨rfl,rfl,trivial⟩) (fH (m:=1000) h4 (by decide) _) ?_;rintro _ Yz ⟨rfl,rfl⟩;refine ⟨_,rfl,?_⟩;refine gM ?_;refine gk (v:= .agg #[iV 1,iV (aX a 2),iV (aX b 24),iV (aX c 1000),iV 0,iV 0]) 9 rfl l6 (λ_ _=>gF) ?_;refine dY (by kernel_rfl) rfl rfl rfl ?_;refine sa 0 l6 iE ?_;intro Z6 tV;refine zQ ?_;refine iP ?_;refine zN 5 ?_;rw [show mR k a b c=⟨1,(aX a 2),(aX b 24),(aX c 1000),0,0⟩ from by unfold mR;first | rw [if_pos (by omega)] | rw [if_neg (by omega),if_pos (by omega)] | rw [if_neg (by omega),if_neg (by omega),if_pos (by omega)] | rw [if_neg (by omega),if_neg (by omega),if_neg (by omega)]];exact ⟨rfl,tV.low⟩
 refine zN 8 ?_;by_cases h50:(aX k 8)=3
 ·refine zN 10 ?_;refine vv (v:= .agg #[iV 2,iV 0,iV 0,iV 0,iV 0,iV 0]) gF ?_;refine sa 0 S6 iE ?_;intro Yr oq;refine zN 6 ?_;rw [show mR k a b c=⟨2,0,0,0,0,0⟩ from by unfold mR;first | rw [if_pos (by omega)] | rw [if_neg (by omega),if_pos (by omega)] | rw [if_neg (by omega),if_neg (by omega),if_pos (by omega)] | rw [if_neg (by omega),if_neg (by omega),if_neg (by omega)]];exact ⟨rfl,oq.low⟩
 refine zN 6 ?_;by_cases h53:(aX k 8)=4
 ·refine zN 7 ?_;refine vv (v:= .agg #[iV 2,iV 0,iV 0,iV 0,iV 0,iV 0]) gF ?_;refine sa 0 S6 iE ?_;intro ZU uS;refine zN 6 ?_;rw [show mR k a b c=⟨2,0,0,0,0,0⟩ from by unfold mR;first | rw [if_pos (by omega)] | rw [if_neg (by omega),if_pos (by omega)] | rw [if_neg (by omega),if_neg (by omega),if_pos (by omega)] | rw [if_neg (by omega),if_neg (by omega),if_neg (by omega)]];exact ⟨rfl,uS.low⟩
 refine zN 8 ?_;by_cases h56:(aX k 8)=5
 ·refine zN 9 ?_;have pW:=S6.drew;refine fq 9 8 pW [] ?_;refine gk (v:= .pointer (some ⟨b1,1,none⟩)) 0 rfl pW (λ_ _=>vR _ Aq) ?_;refine gM ?_;refine gk (v:= .pointer (some ⟨b1,2,none⟩)) 3 rfl pW (λ_ _=>vR _ Ar) ?_;refine gM ?_;refine eU (m:=4) (r:=2) (by kernel_rfl) ?_;refine kR (i:=2) rfl rfl (wn rfl) rfl rfl (iB (vs:=[iV a,iV 3]) rfl zK ⟨rfl,rfl,trivial⟩) (fH (m:=3) h2 (by decide) _) ?_;rintro _ Yt ⟨rfl,rfl⟩;refine ⟨_,rfl,?_⟩;refine gM ?_;refine eU (m:=3) (r:=5) (by kernel_rfl) ?_;refine kR (i:=5) rfl rfl (wn rfl) rfl rfl (iB (vs:=[iV b,iV 6]) rfl zK ⟨rfl,rfl,trivial⟩) (fH (m:=6) h3 (by decide) _) ?_;rintro _ w63 ⟨rfl,rfl⟩;refine ⟨_,rfl,?_⟩;refine gM ?_;refine gk (v:= .agg #[iV (aX a 3),iV (aX b 6)]) 6 rfl pW (λ_ _=>gF) ?_;refine gk (v:= .agg #[iV 3,iV 0,iV 0,iV 0,iV (aX a 3),iV (aX b 6)]) 7 rfl pW (λ_ _=>gF) ?_;refine dY (by kernel_rfl) rfl rfl rfl ?_;refine sa 0 pW iE ?_;intro UK uz;refine zQ ?_;refine iP ?_;refine zN 5 ?_;rw [show mR k a b c=⟨3,0,0,0,(aX a 3),(aX b 6)⟩ from by unfold mR;first | rw [if_pos (by omega)] | rw [if_neg (by omega),if_pos (by omega)] | rw [if_neg (by omega),if_neg (by omega),if_pos (by omega)] | rw [if_neg (by omega),if_neg (by omega),if_neg (by omega)]];exact ⟨rfl,uz.low⟩
 refine zN 6 ?_;by_cases h68:(aX k 8)=6
 ·refine zN 6 ?_;have vI:=S6.drew;refine fq 9 8 vI [] ?_;refine gk (v:= .pointer (some ⟨b1,1,none⟩)) 0 rfl vI (λ_ _=>vR _ Aq) ?_;refine gM ?_;refine gk (v:= .pointer (some ⟨b1,2,none⟩)) 3 rfl vI (λ_ _=>vR _ Ar) ?_;refine gM ?_;refine eU (m:=4) (r:=2) (by kernel_rfl) ?_;refine kR (i:=2) rfl rfl (wn rfl) rfl rfl (iB (vs:=[iV a,iV 3]) rfl zK ⟨rfl,rfl,trivial⟩) (fH (m:=3) h2 (by decide) _) ?_;rintro _ w74 ⟨rfl,rfl⟩;refine ⟨_,rfl,?_⟩;refine gM ?_;refine eU (m:=3) (r:=5) (by kernel_rfl) ?_;refine kR (i:=5) rfl rfl (wn rfl) rfl rfl (iB (vs:=[iV b,iV 6]) rfl zK ⟨rfl,rfl,trivial⟩) (fH (m:=6) h3 (by decide) _) ?_;rintro _ w75 ⟨rfl,rfl⟩;refine ⟨_,rfl,?_⟩;refine gM ?_;refine gk (v:= .agg #[iV (aX a 3),iV (aX b 6)]) 6 rfl vI (λ_ _=>gF) ?_;refine gk (v:= .agg #[iV 3,iV 0,iV 0,iV 0,iV (aX a 3),iV (aX b 6)]) 7 rfl vI (λ_ _=>gF) ?_;refine dY (by kernel_rfl) rfl rfl rfl ?_;refine sa 0 vI iE ?_;intro w78 Bf;refine zQ ?_;refine iP ?_;refine zN 5 ?_;rw [show mR k a b c=⟨3,0,0,0,(aX a 3),(aX b 6)⟩ from by unfold mR;first | rw [if_pos (by omega)] | rw [if_neg (by omega),if_pos (by omega)] | rw [if_neg (by omega),if_neg (by omega),if_pos (by omega)] | rw [if_neg (by omega),if_neg (by omega),if_neg (by omega)]];exact ⟨rfl,Bf.low⟩
 refine zN 10 ?_;refine vv (v:= .agg #[iV 4,iV 0,iV 0,iV 0,iV 0,iV 0]) gF ?_;refine sa 0 S6 iE ?_;intro w80 sN;refine zN 4 ?_;rw [show mR k a b c=⟨4,0,0,0,0,0⟩ from by unfold mR;first | rw [if_pos (by omega)] | rw [if_neg (by omega),if_pos (by omega)] | rw [if_neg (by omega),if_neg (by omega),if_pos (by omega)] | rw [if_neg (by omega),if_neg (by omega),if_neg (by omega)]];exact ⟨rfl,sN.low⟩
theorem Ur {k a b c:Int} (h1:KZ k) (h2:KZ a) (h3:KZ b) (h4:KZ c) (w:World):
    Calls Tryz.prog 16 #[.agg #[iV k,iV a,iV b,iV c]] w (λe w'=>e= .returned (.agg (Ev.cells (mR k a b c)).toArray)/\Below w.heap.size w w'):=by
 have S:=St.start w;refine gu 5 Tryz.func16 ?_;refine cw [0] ?_;refine zN 2 ?_;refine iK S ?_;intro b1 w2 S3;refine fF S3 Zt ?_;intro b4 w5 S6;refine zQ ?_;refine Vs (vv (aj rfl rfl (oC 1 S6 rfl Tryz.underlying67 rfl acH rfl)) ?_);refine cab as6 S6 (Uq h1 h2 h3 h4 _) ?_;intro w7 S8;refine sa 0 S8 iE ?_;intro YG qw;refine zN 4 ?_;exact ⟨rfl,qw.low⟩
theorem abv {g:Gr} (h:g.ok) (cr:Bool) (w:World):
    Calls Tryz.prog 13 #[.agg #[iV g.kd,iV g.a,iV g.b,iV g.c,iV g.d],.bool cr] w (λe w'=>e= .returned (.agg (Ac.cells (gH g cr)).toArray)/\Below w.heap.size w w'):=by
 have S:=St.start w;refine gu 91 Tryz.func13 ?_;refine cw [0,1] ?_;refine zN 2 ?_;refine iK S ?_;intro b1 w2 S3;refine fF S3 afu ?_;intro b4 w5 S6;refine zQ ?_;refine Vs (vv (vR 1 O1) ?_);refine zQ ?_;refine dH QU (lD (m:=3) h.2.1 (by decide) _) ?_;rintro _ w7 ⟨rfl,rfl⟩;refine ⟨_,rfl,?_⟩;refine zN 2 ?_;refine Vs (vv (vR 2 X8) ?_);refine zQ ?_;refine dH QU (lD (m:=2) h.2.2.1 (by decide) _) ?_;rintro _ w8 ⟨rfl,rfl⟩;refine ⟨_,rfl,?_⟩;refine zN 2 ?_;refine UE (vv (vR 0 X7) ?_);refine zQ ?_;refine dH QU (lD (m:=24) h.1 (by decide) _) ?_;rintro _ w9 ⟨rfl,rfl⟩;refine ⟨_,rfl,?_⟩;refine zN 7 ?_;by_cases h10:(aX g.kd 24)<7
 ·refine zN 3 ?_;refine Ce (vv (vR 3 Ap) ?_);refine zQ ?_;refine vv (vR 1 O1) ?_;refine zQ ?_;refine vv (vR 4 O4) ?_;refine zQ ?_;refine vv (vR 4 O4) ?_;refine zQ ?_;refine vv (v:= .agg #[iV g.c,iV g.a,iV g.d,iV g.d]) gF ?_;refine cab asT S6 (Ur h.2.2.2.1 h.2.1 h.2.2.2.2 h.2.2.2.2 _) ?_;intro Jp mJ;refine fF mJ Zt ?_;intro b14 Gl kN;refine sa 0 kN iE ?_;intro Jq iL;refine zN 7 ?_;by_cases h19:(mR g.c g.a g.d g.d).kind=4
  ·refine zN 6 ?_;refine G8 0 iL lH ?_;intro UN rM;refine zN 7 ?_;refine vv (v:= .agg #[iV 2,iV (aX g.a 3),iV (aX g.b 2),iV 0,iV 0,iV 2,iV ((mR g.c g.a g.d g.d).producer),iV ((mR g.c g.a g.d g.d).id),iV ((mR g.c g.a g.d g.d).body),iV ((mR g.c g.a g.d g.d).aR),iV ((mR g.c g.a g.d g.d).hno)]) gF ?_;refine sa 1 rM kg ?_;intro w22 lV;refine zN 6 ?_;rw [show gH g cr=⟨2,(aX g.a 3),(aX g.b 2),0,0,2,(mR g.c g.a g.d g.d).producer,(mR g.c g.a g.d g.d).id,(mR g.c g.a g.d g.d).body,(mR g.c g.a g.d g.d).aR,(mR g.c g.a g.d g.d).hno⟩ from by unfold gH;rw [if_pos (by omega),V9,if_pos (by assumption)]];exact ⟨rfl,lV.low⟩
  refine zN 11 ?_;refine vv (v:= .agg #[iV 2,iV (aX g.a 3),iV (aX g.b 2),iV 0,iV 0,iV ((mR g.c g.a g.d g.d).kind),iV ((mR g.c g.a g.d g.d).producer),iV ((mR g.c g.a g.d g.d).id),iV ((mR g.c g.a g.d g.d).body),iV ((mR g.c g.a g.d g.d).aR),iV ((mR g.c g.a g.d g.d).hno)]) gF ?_;refine sa 1 iL kg ?_;intro Mw jA;refine zN 6 ?_;rw [show gH g cr=⟨2,(aX g.a 3),(aX g.b 2),0,0,(mR g.c g.a g.d g.d).kind,(mR g.c g.a g.d g.d).producer,(mR g.c g.a g.d g.d).id,(mR g.c g.a g.d g.d).body,(mR g.c g.a g.d g.d).aR,(mR g.c g.a g.d g.d).hno⟩ from by unfold gH;rw [if_pos (by omega),V9,if_neg (by assumption)]];exact ⟨rfl,jA.low⟩
 refine zN 8 ?_;by_cases h26:(aX g.kd 24)<13
 ·refine zN 8 ?_;refine vv (v:= .agg #[iV 3,iV (aX g.a 3),iV 0,iV 0,iV 0,iV 0,iV 0,iV 0,iV 0,iV 0,iV 0]) gF ?_;refine sa 0 S6 kg ?_;intro NC rH;refine zN 6 ?_;rw [show gH g cr=⟨3,(aX g.a 3),0,0,0,0,0,0,0,0,0⟩ from by unfold gH;rw [if_neg (by omega),if_pos (by omega)]];exact ⟨rfl,rH.low⟩
 refine zN 8 ?_;by_cases h29:(aX g.kd 24)=13
 ·refine zN 3 ?_;refine Ce (vv (vR 3 Ap) ?_);refine zQ ?_;refine dH QU (lD (m:=20) h.2.2.2.1 (by decide) _) ?_;rintro _ RS ⟨rfl,rfl⟩;refine ⟨_,rfl,?_⟩;refine vv (v:= .agg #[iV 4,iV 0,iV 0,iV (aX g.c 20),iV 0,iV 0,iV 0,iV 0,iV 0,iV 0,iV 0]) gF ?_;refine sa 0 S6 kg ?_;intro Yx mK;refine zN 6 ?_;rw [show gH g cr=⟨4,0,0,(aX g.c 20),0,0,0,0,0,0,0⟩ from by unfold gH;rw [if_neg (by omega),if_neg (by omega),if_pos (by omega)]];exact ⟨rfl,mK.low⟩
 refine zN 8 ?_;by_cases h33:(aX g.kd 24)=14
 ·refine zN 3 ?_;refine Ce (vv (vR 3 Ap) ?_);refine zQ ?_;refine dH QU (lD (m:=20) h.2.2.2.1 (by decide) _) ?_;rintro _ YI ⟨rfl,rfl⟩;refine ⟨_,rfl,?_⟩;refine vv (v:= .agg #[iV 5,iV 0,iV 0,iV (aX g.c 20),iV 0,iV 0,iV 0,iV 0,iV 0,iV 0,iV 0]) gF ?_;refine sa 0 S6 kg ?_;intro Yp nW;refine zN 6 ?_;rw [show gH g cr=⟨5,0,0,(aX g.c 20),0,0,0,0,0,0,0⟩ from by unfold gH;rw [if_neg (by omega),if_neg (by omega),if_neg (by omega),if_pos (by omega)]];exact ⟨rfl,nW.low⟩
 refine zN 8 ?_;by_cases h37:(aX g.kd 24)=15
 ·refine zN 3 ?_;refine Ce (vv (vR 3 Ap) ?_);refine zQ ?_;refine dH QU (lD (m:=20) h.2.2.2.1 (by decide) _) ?_;rintro _ w38 ⟨rfl,rfl⟩;refine ⟨_,rfl,?_⟩;refine vv (v:= .agg #[iV 6,iV 0,iV 0,iV (aX g.c 20),iV 0,iV 0,iV 0,iV 0,iV 0,iV 0,iV 0]) gF ?_;refine sa 0 S6 kg ?_;intro YD rJ;refine zN 6 ?_;rw [show gH g cr=⟨6,0,0,(aX g.c 20),0,0,0,0,0,0,0⟩ from by unfold gH;rw [if_neg (by omega),if_neg (by omega),if_neg (by omega),if_neg (by omega),if_pos (by omega)]];exact ⟨rfl,rJ.low⟩
 refine zN 8 ?_;by_cases h41:(aX g.kd 24)=16
 ·refine zN 9 ?_;refine vv (v:= .agg #[iV 10,iV (aX g.a 3),iV (aX g.b 2),iV 0,iV 0,iV 0,iV 0,iV 0,iV 0,iV 0,iV 0]) gF ?_;refine sa 0 S6 kg ?_;intro UH qc;refine zN 6 ?_;rw [show gH g cr=⟨10,(aX g.a 3),(aX g.b 2),0,0,0,0,0,0,0,0⟩ from by unfold gH;rw [if_neg (by omega),if_neg (by omega),if_neg (by omega),if_neg (by omega),if_neg (by omega),if_pos (by omega)]];exact ⟨rfl,qc.low⟩
 refine zN 6 ?_;have hp:=pG (n:=g.kd) (m:=24) (by decide)
 cases cr with
 | false=>
  refine zN 2 ?_;by_cases h44:(aX g.kd 24)=17
  ·refine zN 24 ?_;refine vv (v:= .agg #[iV 7,iV 0,iV 0,iV 0,iV 0,iV 0,iV 0,iV 0,iV 0,iV 0,iV 0]) gF ?_;refine sa 0 S6 kg ?_;intro w45 nI;refine zN 4 ?_;rw [show gH g false=⟨7,0,0,0,0,0,0,0,0,0,0⟩ from by unfold gH;rw [if_neg (by omega),if_neg (by omega),if_neg (by omega),if_neg (by omega),if_neg (by omega),if_neg (by omega),if_neg (λh=>by have:=h.2;cases this),if_neg (λh=>by have:=h.2;cases this)]];exact ⟨rfl,nI.low⟩
  refine zN 11 ?_;by_cases h47:(aX g.kd 24)=18
  ·refine zN 13 ?_;refine vv (v:= .agg #[iV 7,iV 0,iV 0,iV 0,iV 0,iV 0,iV 0,iV 0,iV 0,iV 0,iV 0]) gF ?_;refine sa 0 S6 kg ?_;intro Z6 tV;refine zN 4 ?_;rw [show gH g false=⟨7,0,0,0,0,0,0,0,0,0,0⟩ from by unfold gH;rw [if_neg (by omega),if_neg (by omega),if_neg (by omega),if_neg (by omega),if_neg (by omega),if_neg (by omega),if_neg (λh=>by have:=h.2;cases this),if_neg (λh=>by have:=h.2;cases this)]];exact ⟨rfl,tV.low⟩
  refine zN 13 ?_;refine vv (v:= .agg #[iV 7,iV 0,iV 0,iV 0,iV 0,iV 0,iV 0,iV 0,iV 0,iV 0,iV 0]) gF ?_;refine sa 0 S6 kg ?_;intro UL uy;refine zN 4 ?_;rw [show gH g false=⟨7,0,0,0,0,0,0,0,0,0,0⟩ from by unfold gH;rw [if_neg (by omega),if_neg (by omega),if_neg (by omega),if_neg (by omega),if_neg (by omega),if_neg (by omega),if_neg (λh=>by have:=h.2;cases this),if_neg (λh=>by have:=h.2;cases this)]];exact ⟨rfl,uy.low⟩
 | true=>
  refine zN 2 ?_;by_cases h52:(aX g.kd 24)=17
  ·refine zN 11 ?_;refine vv (vR 3 Ap) ?_;refine zQ ?_;refine dH QU (lD (m:=120) h.2.2.2.1 (by decide) _) ?_;rintro _ w53 ⟨rfl,rfl⟩;refine ⟨_,rfl,?_⟩;refine vv (v:= .agg #[iV 8,iV (aX g.a 3),iV 0,iV 0,iV (aX g.c 120),iV 0,iV 0,iV 0,iV 0,iV 0,iV 0]) gF ?_;refine sa 0 S6 kg ?_;intro ZU uS;refine zN 6 ?_;rw [show gH g true=⟨8,(aX g.a 3),0,0,(aX g.c 120),0,0,0,0,0,0⟩ from by unfold gH;rw [if_neg (by omega),if_neg (by omega),if_neg (by omega),if_neg (by omega),if_neg (by omega),if_neg (by omega),if_pos ⟨by omega,rfl⟩]];exact ⟨rfl,uS.low⟩
  refine zN 11 ?_;by_cases h56:(aX g.kd 24)=18
  ·refine zN 11 ?_;refine vv (v:= .agg #[iV 9,iV (aX g.a 3),iV 0,iV 0,iV 0,iV 0,iV 0,iV 0,iV 0,iV 0,iV 0]) gF ?_;refine sa 0 S6 kg ?_;intro w57 Dc;refine zN 6 ?_;rw [show gH g true=⟨9,(aX g.a 3),0,0,0,0,0,0,0,0,0⟩ from by unfold gH;rw [if_neg (by omega),if_neg (by omega),if_neg (by omega),if_neg (by omega),if_neg (by omega),if_neg (by omega),if_neg (λh=>by have:=h.1;omega),if_pos ⟨by omega,rfl⟩]];exact ⟨rfl,Dc.low⟩
  refine zN 13 ?_;refine vv (v:= .agg #[iV 7,iV 0,iV 0,iV 0,iV 0,iV 0,iV 0,iV 0,iV 0,iV 0,iV 0]) gF ?_;refine sa 0 S6 kg ?_;intro w59 Qf;refine zN 4 ?_;rw [show gH g true=⟨7,0,0,0,0,0,0,0,0,0,0⟩ from by unfold gH;rw [if_neg (by omega),if_neg (by omega),if_neg (by omega),if_neg (by omega),if_neg (by omega),if_neg (by omega),if_neg (λh=>by have:=h.1;omega),if_neg (λh=>by have:=h.1;omega)]];exact ⟨rfl,Qf.low⟩
def mks:List Ac:=[⟨1,0,0,0,0,0,0,0,0,0,0⟩,⟨1,1,1,0,0,0,0,0,0,0,0⟩]
def aY (gs:List Gr) (m:Nat) (cr:Bool):List Ac:=mks++(gs.take m).map (gH · cr)
theorem Ut {gs:List Gr} {k:Nat} {g:Gr} {cr:Bool} (h:gs[k]? =some g):aY gs (k+1) cr=aY gs k cr++[gH g cr]:=by
 unfold aY;rw [List.take_add_one,h];simp
theorem K3 {gs:List Gr} {k m:Nat} {cr:Bool} (h1:k<=gs.length) (h2:k<=m) (h3:k=gs.length\/k=m):aY gs k cr=aY gs m cr:=by
 rcases h3 with rfl | rfl
 ·unfold aY;rw [List.take_of_length_le (Nat.le_refl _),List.take_of_length_le h2]
 rfl
theorem K4 {gs:List Gr} {k:Nat} {cr:Bool} (h:k<=gs.length):(aY gs k cr).length=2+k:=by
 unfold aY mks;simp;omega
theorem zl {gs:List Gr} {A:Option Addr} {c m:Nat} {cr:Bool} (hm:m<=1000) (hg: ∀ g∈gs,g.ok) (w:World) (h:Rd w w.heap.size 5 A gs.length (gs.flatMap Gr.cells)):
    Calls Tryz.prog 8 #[.slice A gs.length c,iV ((m:Nat):Int),.bool cr] w (λe w'=> ∃ A' c',e= .returned (.slice A' ((aY gs m cr).length) c')/\St w.heap.size w w' [.own 57 11 (.slice A' ((aY gs m cr).length) c') ((aY gs m cr).length) ((aY gs m cr).flatMap Ac.cells)]):=by
 have S:=(St.start w).bV h;refine gu 35 Tryz.func8 ?_;refine cw [0,1,2] ?_;refine zN 7 ?_;refine vv (v:= .agg #[iV 1,iV 0,iV 0,iV 0,iV 0,iV 0,iV 0,iV 0,iV 0,iV 0,iV 0]) gF ?_;refine vv (v:= .agg #[iV 1,iV 1,iV 1,iV 0,iV 0,iV 0,iV 0,iV 0,iV 0,iV 0,iV 0]) gF ?_;refine qG (V:=λb=> .slice (some ⟨b,0,none⟩) 2 2) (row:=(mks.flatMap Ac.cells).toArray) (t:=57) (n:=2) (s:=11) (xs:=mks.flatMap Ac.cells) S (wn rfl) rfl rfl (aV (vs:=[(0,.agg #[iV 1,iV 0,iV 0,iV 0,iV 0,iV 0,iV 0,iV 0,iV 0,iV 0,iV 0]),(1,.agg #[iV 1,iV 1,iV 1,iV 0,iV 0,iV 0,iV 0,iV 0,iV 0,iV 0,iV 0])]) rfl ⟨rfl,rfl,rfl,rfl,trivial⟩ (by kernel_rfl)) rfl (by decide) rfl ?_;intro b1 w2 S3;refine zN 10 ?_;refine dN (X:=Nat×(Option Addr)×Nat) (λxv=>[(0,.slice A gs.length c),(1,iV ((m:Nat):Int)),(2,.bool cr),(6,.slice none 0 0),(7,.slice xv.2.1 (2+xv.1) xv.2.2),(8,iV ((xv.1:Nat):Int))]) (λxv wr=>(xv.1<=gs.length)/\(xv.1<=m)/\St w.heap.size w wr [.own 57 11 (.slice xv.2.1 (2+xv.1) xv.2.2) (2+xv.1) ((aY gs xv.1 cr).flatMap Ac.cells),.rd 5 A gs.length ((gs).flatMap Gr.cells)]) (λxv=>gs.length-xv.1) (0,(some ⟨b1,0,none⟩),2) ?_ ?_ ?_
 ·exact ⟨Nat.zero_le _,Nat.zero_le _,S3⟩
 ·exact ⟨rfl,rfl,rfl,rfl,rfl,rfl,trivial⟩
 rintro ⟨k,Ab,cb⟩ w4 ⟨FL,vL,S5⟩
 try dsimp only at FL vL S5
 refine bC (l':=[(0,.slice A gs.length c),(1,iV ((m:Nat):Int)),(2,.bool cr),(6,.slice none 0 0),(7,.slice Ab (2+k) cb),(8,iV ((k:Nat):Int))]) ⟨rfl,rfl,rfl,rfl,rfl,rfl,trivial⟩ (aK (aK (aC (vm ?_))));refine zQ ?_;refine vv (v:=iV ((gs.length:Nat):Int)) (qF (vs:=[.slice A gs.length c]) rfl ⟨rfl,trivial⟩ λ_=>aiK rfl Tryz.underlying22) ?_;by_cases h8:((k:Nat):Int)< ((gs.length:Nat):Int)
 ·refine zN 4 ?_;by_cases h9:((k:Nat):Int)< ((m:Nat):Int)
  ·refine zN 13 ?_;obtain ⟨b10,o11,rfl⟩:=Rd.addr (St.rd 1 S5 rfl) (by omega);obtain ⟨Ck,ak9⟩:=KG k (St.rd 1 S5 rfl) (by omega);refine vv (v:= .pointer (some ⟨b10,o11+k*5,none⟩)) (aO rfl rfl rfl (AU k Tryz.underlying22 UD (by omega) (by omega))) ?_;refine vv (aj rfl rfl (aA (cs:=Gr.cells Ck) Tryz.underlying60 rfl UD rfl (Rd.vQ (St.rd 1 S5 rfl) (λ_ _ h=>aZ (enc:=Gr.cells) (sz:=5) (λ_=>rfl) ak9 h)))) ?_;refine zQ ?_;refine cab asI S5 (abv (hg _ (List.mem_of_getElem? ak9)) cr _) ?_;intro Jw gJ;refine fF gJ afu ?_;intro b17 Nz l5;refine sa 0 l5 kg ?_;intro UN rM;refine zN 5 ?_;refine Zu rM ?_;intro R8 Js jB;refine eB (news:=[iV ((gH Ck cr).kd),iV ((gH Ck cr).nd),iV ((gH Ck cr).qu),iV ((gH Ck cr).at_),iV ((gH Ck cr).kp),iV ((gH Ck cr).ek),iV ((gH Ck cr).ep),iV ((gH Ck cr).ei),iV ((gH Ck cr).eb),iV ((gH Ck cr).eh),iV ((gH Ck cr).en)]) (xs':=(aY gs (k+1) cr).flatMap Ac.cells) 2 jB (wn rfl) rfl rfl rfl rfl rfl rfl (St.lY (xs:=[iV ((gH Ck cr).kd),iV ((gH Ck cr).nd),iV ((gH Ck cr).qu),iV ((gH Ck cr).at_),iV ((gH Ck cr).kp),iV ((gH Ck cr).ek),iV ((gH Ck cr).ep),iV ((gH Ck cr).ei),iV ((gH Ck cr).eb),iV ((gH Ck cr).eh),iV ((gH Ck cr).en)]) 0 jB rfl rfl rfl) Tryz.underlying26 alY rfl (by decide) (bX rfl) (by simp only [maxLen];omega) (by omega) (jO (enc:=Ac.cells) (Ut ak9).symm rfl) ?_;intro A25 c26 NC hc29 auW rH;refine zN 6 ?_;refine vv (v:=iV ((k+1:Nat):Int)) gD ?_;refine zN 2 ?_;have kW:=rH.aS [1,0];refine aN (k+1,A25,c26) ?_ ⟨rfl,rfl,rfl,rfl,rfl,rfl,trivial⟩ (by first | omega | (dsimp only;omega));exact ⟨(by dsimp only;omega),(by dsimp only;omega),kW⟩
  refine zN 18 ?_;have mK:=S5.aS [1];rw [show aY gs m cr=aY gs k cr from (K3 (by omega) (by omega) (by omega)).symm,K4 (by omega)];exact ⟨Ab,cb,rfl,mK⟩
 refine zN 22 ?_;have qx:=S5.aS [1];rw [show aY gs m cr=aY gs k cr from (K3 (by omega) (by omega) (by omega)).symm,K4 (by omega)];exact ⟨Ab,cb,rfl,qx⟩
open zu
theorem YX {α β:Type} {R:α->β->Prop} {r:β}: ∀ {l:List α} {m j:Nat} {u:α},dI R l (List.replicate m r)->l[j]? =some u->R u r
 | _::_,_+1,0,_,h,hj=>by cases hj;exact h.1
 | _::l,m+1,j+1,_,h,hj=>YX (l:=l) (m:=m) h.2 hj
 | [],_,_,_,_,hj=>by simp at hj
theorem wf_i64 {x:Int} (h:(Lit.int .i64 x).wf=true):KZ x:=by
 have h1:IntKind.i64.min= -9223372036854775808:=by decide
 have h2:IntKind.i64.max=9223372036854775807:=by decide
 unfold KZ;simp only [Lit.wf,h1,h2,Bool.and_eq_true,decide_eq_true_eq] at h;exact h
theorem aiC {α:Type} [zu α] {W:World} {v:Value} {b:Nat} (h:Fits W v (.sl b (List.replicate (size α) (.int .i64)))) {A:Option Addr} {n c:Nat} {l:List α} (hv:v= .slice A n c) (hr:Rd W W.heap.size (size α) A n (jS l)): ∀ x∈l,∀ y∈ints x,KZ y:=by
 intro x hx y hy;obtain ⟨k,hk⟩:=List.mem_iff_getElem?.1 hx;obtain ⟨j,hj⟩:=List.mem_iff_getElem?.1 hy;have hkn:k<n:=by rw [<-hr.OJ];exact (List.getElem?_eq_some_iff.1 hk).1
 obtain ⟨bb,off,a,rfl,_,ha,hc⟩:=hr.alh hkn;rw [hk] at ha
 cases ha;have h1:=hc j y hj;have hjs:j<size α:=by rw [<-len x];exact (List.getElem?_eq_some_iff.1 hj).1
 rcases h with h | ⟨ad,n',c',h,_,_,_,hcell⟩
 ·rw [hv] at h;cases h
 rw [hv] at h
 cases h;obtain ⟨cs,h2,_,h3⟩:=hcell k hkn;have hl:=h2.len;rw [List.length_replicate] at hl;have hu:cs[j]? =some (cs[j]'(by omega)):=List.getElem?_eq_getElem (by omega);have h4:=h3 j _ hu;rw [List.length_replicate,Go.WideShapes.add_plain,h1] at h4;obtain ⟨z,hz,hw⟩:=YX h2 hu;rw [hz] at h4
 cases h4;exact wf_i64 hw
instance:zu Gr where
 size:=5
 ints x:=[x.kd,x.a,x.b,x.c,x.d]
 of l:=⟨l.getD 0 0,l.getD 1 0,l.getD 2 0,l.getD 3 0,l.getD 4 0⟩
 pos:=by omega
 len _:=rfl
 inv xs h:=by
  match xs,h with
  | [a,b,c,d,e],_=>rfl
theorem afd:flat Tryz.prog 30 22=some [.sl 40 (List.replicate 5 (.int .i64))]:=by kernel_rfl
theorem BK {W:World} {v:Value} (h:H7 Tryz.prog W v 22): ∃ A c,∃ l:List Gr,v= .slice A l.length c/\Rd W W.heap.size 5 A l.length (l.flatMap Gr.cells)/\ ∀ g∈l,g.ok:=by
 obtain ⟨⟨base,hk⟩,l,hl,ha⟩:=h;rw [afd] at hl
 cases hl;obtain ⟨A,n,c,rfl⟩:=okWide_slice Tryz.underlying22 hk;obtain ⟨a,l1,e,h1,_⟩:=dI.uf ha;simp [Value.cells] at e;obtain ⟨rfl,_⟩:=e;obtain ⟨A',n',c',l,e,hr,hn,hc,hb,h0⟩:=Y6 (α:=Gr) h1;have hw:=aiC (α:=Gr) h1 e hr;simp only [Value.slice.injEq] at e;obtain ⟨rfl,rfl,rfl⟩:=e;have hlen:l.length=n:=Rd.OJ (α:=Gr) hr;subst hlen;refine ⟨A,c,l,rfl,hr,λg hg=>?_⟩;have h:=hw g hg;exact ⟨h _ (by simp [ints]),h _ (by simp [ints]),h _ (by simp [ints]),h _ (by simp [ints]),h _ (by simp [ints])⟩
end
section
open ChangeShapes WideShapes RowKit
section
variable {m m':Cl} {n q:Nat} {g g':Gh} {V:Nat->bK} {P:Nat->Option fO} {U:Nat->Bool} {Lt:iD->Prop} {pl:Pl} {sh:Nat->Int×Int} {sv:List kJ}
def zU (n q:Nat) (ep:Int) (evs:List Ev) (an:List jc) (i:Nat):kJ:=⟨n,q,ep,evs.getD i aT,an.getD i eP,-1⟩
theorem zm {evs:List Ev} {an:List jc}: ∀ (il:List Nat) (m:Cl),m.recovered n q evs an il=
  { m with aU:=m.aU++il.map (zU n q ((m.ah n).bs q).ep evs an),shown:=if il=[] then m.shown else gX m.shown n q (((m.ah n).bs q).ep,(((m.ah n).bs q).evs.length:Int)) }
 | [],m=>by simp [Cl.recovered]
 | i::r,m=>by
  rw [Cl.recovered,zm r];have e: ∀ (s:Nat->Nat->Int×Int) (p:Int×Int),gX (gX s n q p) n q p=gX s n q p:=λs p=>by
   funext a b
   unfold gX
   split<;>rfl
  unfold Cl.tell;dsimp only;rw [if_neg (by simp: ¬ i::r=[]),List.map_cons,List.append_assoc]
  congr 1
  split
  ·rfl
  exact e _ _
theorem aiD {ep:Int} {evs:List Ev} {an:List jc} {q':Nat} (il:List Nat):(il.map (zU n q' ep evs an)).filter (λs=>decide (s.q=q))=if q'=q then il.map (zU n q' ep evs an) else []:=by
 by_cases e:q'=q
 ·rw [if_pos e];refine List.filter_eq_self.2 λs hs=>?_;obtain ⟨i,_,rfl⟩:=List.mem_map.1 hs;simp [zU,e]
 rw [if_neg e];refine List.filter_eq_nil_iff.2 λs hs=>?_;obtain ⟨i,_,rfl⟩:=List.mem_map.1 hs;simp [zU,e]
theorem SX {G:List Ev} {ep:Int} (hg:good G): ∀ (d F:Nat) {sv:List kJ},F+d=G.length->rp dX sv=some (aH (G.take F)).1->rp dX (sv++((List.range G.length).drop F).map (zU n q ep G (aH G).2.1))=some (aH G).1
 | 0,F,sv,hF,h=>by
  rw [Nat.add_zero] at hF;rw [List.drop_of_length_le (by rw [List.length_range];omega),List.map_nil,List.append_nil,h,hF,List.take_length]
 | d+1,F,sv,hF,h=>by
  have hlt:F<G.length:=by omega
  have hlr:F< (List.range G.length).length:=by rw [List.length_range];exact hlt
  rw [List.drop_eq_getElem_cons hlr,List.getElem_range,List.map_cons];rw [show sv++zU n q ep G (aH G).2.1 F::((List.range G.length).drop (F+1)).map (zU n q ep G (aH G).2.1)=(sv++[zU n q ep G (aH G).2.1 F])++((List.range G.length).drop (F+1)).map (zU n q ep G (aH G).2.1) by rw [List.append_assoc];rfl];refine SX hg d (F+1) (by omega) ?_;have hs:=oM hlt;have hg2:good (G.take F++[G[F]]):=by rw [<-hs];exact qN hg
  obtain ⟨s1,s2,s3⟩:=good_step hg2;have ha:=Sn _ rfl hg F hlt;have e1:(zU n q ep G (aH G).2.1 F).op=G[F]:=by
   show G.getD F aT=_
   rw [List.getD_eq_getElem?_getD,List.getElem?_eq_getElem hlt];rfl
  have e2:(zU n q ep G (aH G).2.1 F).ans=(iN (aH (G.take F)).1 G[F]).2.1:=by
   show (aH G).2.1.getD F eP=_
   rw [List.getD_eq_getElem?_getD,ha];rfl
  rw [DW h (by rw [e1];exact s1) (by rw [e1,e2]),e1,hs,s3]
def QD (m:Cl) (q:Nat) (g:Gh) (n:Nat):Prop:=Inv g (vw m q) (zH m q) (upd (D8 m) n false) (MB m q) (m.off.at q) (zI m q) (zG m q)
noncomputable def vP (n:Nat) (bs:Nat->bK) (m:Cl) (q:Nat):Cl:=if (bs q).role≠1 then m else ((m.recover n q).bn n q (fu (bs q)).1).tell n q aP eP (-1)
theorem Dw {bs:Nat->bK}: ∀ (ql:List Nat) (m:Cl),Cl.woken n bs ql m=ql.foldl (vP n bs) m
 | [],m=>rfl
 | q::r,m=>by
  rw [Cl.woken,List.foldl_cons];unfold vP
  split
  ·exact Dw r m
  exact Dw r _
structure W1 (m m':Cl) (n q':Nat):Prop where
 ah: ∃ b,m'.ah=upd m.ah n { m.ah n with bs:=upd (m.ah n).bs q' b }
 fly:m'.fly=m.fly
 off:m'.off=m.off
 sh: ∀ q,q'≠q->zI m' q=zI m q
 sv: ∀ q,q'≠q->zG m' q=zG m q
theorem K5 (m:Cl) (n q':Nat): ∃ ss p,m.recover n q'={ m with aU:=m.aU++ss,shown:=p }/\(∀ s∈ss,s.q=q')/\ ∀ a b,b≠q'->p a b=m.shown a b:=by
 unfold Cl.recover
 split
 ·exact ⟨_,_,rfl,λs hs=>by rw [List.mem_singleton] at hs;subst hs;rfl,λa b hb=>by unfold gX;rw [if_neg (λe=>hb e.2)]⟩
 rw [zm];refine ⟨_,_,rfl,λs hs=>?_,λa b hb=>?_⟩
 ·obtain ⟨i,_,rfl⟩:=List.mem_map.1 hs;rfl
 split
 ·rfl
 unfold gX;rw [if_neg (λe=>hb e.2)]
theorem abw {ss:List kJ} {q':Nat} (h: ∀ s∈ss,s.q=q') (hq:q'≠q):ss.filter (λs=>decide (s.q=q))=[]:=List.filter_eq_nil_iff.2 λs hs=>by rw [h s hs];simp [hq]
theorem EM {bs:Nat->bK} (m:Cl) (n q':Nat):W1 m (vP n bs m q') n q':=by
 unfold vP
 split
 ·exact ⟨⟨(m.ah n).bs q',by rw [aI (f:=(m.ah n).bs) rfl];exact Aj⟩,rfl,rfl,λ_ _=>rfl,λ_ _=>rfl⟩
 obtain ⟨ss,p,e,h1,h2⟩:=K5 m n q';rw [e];refine ⟨⟨(fu (bs q')).1,rfl⟩,rfl,rfl,λq hq=>?_,λq hq=>?_⟩
 ·show (λj=>gX p n q' _ j q)=_
  rw [Oh hq]
  funext j
  exact h2 j q (λe=>hq e.symm)
 show ((m.aU++ss)++_).filter _=_
 rw [tJ,if_neg hq,List.append_nil,List.filter_append,abw h1 hq,List.append_nil];rfl
theorem QD.far (I:QD m q g n) (hn:n<5) (hu:(m.ah n).up=true) {q':Nat} (hq:q'≠q) (W:W1 m m' n q'):QD m' q g n/\vw m' q=vw m q/\(m'.ah n).up=true/\(m'.ah n).bs q=(m.ah n).bs q/\(m'.ah n).pend=(m.ah n).pend:=by
 obtain ⟨b,hb⟩:=W.ah;have gG:({ m.ah n with bs:=upd (m.ah n).bs q' b }:Nd).view q=(m.ah n).view q:=by
  rw [gL (X:={ m.ah n with bs:=upd (m.ah n).bs q' b }) hu,gL hu];exact upd_ne (λe=>hq e.symm)
 have hvw:=nV hb gG;have hun:D8 m'=D8 m:=lM hb rfl;refine ⟨?_,hvw,by rw [hb,upd_same];exact hu,by rw [hb,upd_same];exact upd_ne (λe=>hq e.symm),by rw [hb,upd_same]⟩;unfold QD;rw [hvw,rU hb rfl,hun,W.off,W.sh q hq,W.sv q hq];exact I.yE λx hx=>by
  obtain ⟨x1,x2⟩:=hx
  rcases x2 with x2 | ⟨j,hj,x2⟩
  ·rw [W.fly] at x2;exact .inl ⟨x1,.inl x2⟩
  rw [hb] at x2;by_cases e:j=n
  ·subst e;rw [upd_same] at x2;exact .inl ⟨x1,.inr ⟨j,hj,x2⟩⟩
  rw [upd_ne e] at x2;exact .inl ⟨x1,.inr ⟨j,hj,x2⟩⟩
theorem QD.ax9 (I:QD m q g n) (hn:n<5) (hu:(m.ah n).up=true) (hr:((m.ah n).bs q).role=1):QD (m.recover n q) q g.all n/\n=g.o/\(m.recover n q).ah=m.ah:=by
 have hV:=CJ (q:=q) hu;have ho:n=g.o:=I.oEp hn (by rw [hV];exact .inl hr);have eD:((m.ah n).bs q).ep=g.m:=by rw [<-hV,ho];exact I.Ae
 have hev:((m.ah n).bs q).evs=g.G:=by rw [<-hV,ho];exact I.KS
 refine ⟨?_,ho,?_⟩
 ·unfold Cl.recover;by_cases c:(m.shown n q).1≠((m.ah n).bs q).ep
  ·rw [if_pos c];have ht: ¬ g.t=g.m:=λe=>by
    rcases I.KT with ⟨_,h,_⟩ | ⟨h,_⟩
    ·apply c;have h':m.shown g.o q=_:=h;rw [eD,ho,h']
    omega
   have I2:=I.YM ht (s:=⟨n,q,g.m,aP,eP,-1⟩) rfl rfl rfl ho;unfold QD;have e1:zI (m.tell n q aP eP (-1)) q=upd (zI m q) g.o ((g.m:Int),(g.G.length:Int)):=by
    show (λj=>gX m.shown n q _ j q)=_
    rw [FE,eD,hev,ho];rfl
   have e2:zG (m.tell n q aP eP (-1)) q=zG m q++[⟨n,q,g.m,aP,eP,-1⟩]:=by
    show (m.aU++_).filter _=_
    rw [tJ,if_pos rfl,eD];rfl
   rw [e1,e2];exact I2
  rw [if_neg c,zm,eD,hev];have c':(m.shown n q).1=((m.ah n).bs q).ep:=Classical.not_not.1 c
  rcases I.KT with ⟨h1,h2,h3⟩ | ⟨_,h2,_⟩
  ·have hsh:m.shown n q=((g.m:Int),(g.F:Int)):=by rw [ho];exact h2
   rw [hsh];dsimp only;rw [Int.toNat_natCast];have hrp:=SX (n:=n) (q:=q) (ep:=(g.m:Int)) I.gd (g.G.length-g.F) g.F (by omega) I.rps;have I2:=I.told h1 hrp λs hs=>by
    obtain ⟨i,_,rfl⟩:=List.mem_map.1 hs;exact ⟨rfl,ho⟩
   unfold QD;have e2:zG { m with aU:=m.aU++((List.range g.G.length).drop g.F).map (zU n q (g.m:Int) g.G (aH g.G).2.1),shown:=if (List.range g.G.length).drop g.F=[] then m.shown else gX m.shown n q ((g.m:Int),(g.G.length:Int)) } q=zG m q++((List.range g.G.length).drop g.F).map (zU n q (g.m:Int) g.G (aH g.G).2.1):=by
    show (m.aU++_).filter _=_
    rw [List.filter_append,aiD,if_pos rfl];rfl
   have e1:zI { m with aU:=m.aU++((List.range g.G.length).drop g.F).map (zU n q (g.m:Int) g.G (aH g.G).2.1),shown:=if (List.range g.G.length).drop g.F=[] then m.shown else gX m.shown n q ((g.m:Int),(g.G.length:Int)) } q=upd (zI m q) g.o ((g.m:Int),(g.G.length:Int)):=by
    unfold zI;dsimp only
    split
    ·rename_i hnil
     have:=congrArg List.length hnil;rw [List.length_drop,List.length_range,List.length_nil] at this;refine (aI ?_).symm;rw [<-ho,hsh];have:g.F=g.G.length:=by omega
     rw [this]
    rw [FE,ho]
   rw [e1,e2];exact I2
  exfalso
  have h2':(m.shown g.o q).1<g.m:=h2;rw [<-ho,c',eD] at h2';omega
 obtain ⟨ss,p,e,_,_⟩:=K5 m n q;rw [e]
theorem QD.near {bs:Nat->bK} (I:QD m q g n) (hn:n<5) (hu:(m.ah n).up=true) (hp:(m.ah n).pend=none) (hb:(m.ah n).bs q=bs q) (hr:(bs q).role=1) (hw:fu (bs q)=(iy (bs q),0)) (hf:au (iy (bs q))=0) (hfb:au (bs q)=0):
  ∃ g',QD (vP n bs m q) q g' n/\mq g g'/\g'.m=g.m/\g'.o=n/\n=g.o/\g'.t=g'.m/\g'.F=g'.G.length:=by
 obtain ⟨I1,ho,zn⟩:=I.ax9 hn hu (by rw [hb];exact hr);have hV1:vw (m.recover n q) q n=bs q:=by
  unfold vw;rw [zn,gL hu];exact hb
 have apJ:vw (m.recover n q) q g.o=bs q:=by rw [<-hV1];congr 1;exact ho.symm
 have eD:(bs q).ep=g.m:=by rw [<-apJ];exact I1.Ae
 have hev:(bs q).evs=g.G:=by rw [<-apJ];exact I1.KS
 have hgd:good (g.G++[aP]):=by have:=(dS hf).2;unfold iy at this;rw [hev] at this;exact this
 have hs:=fP hfb;unfold bF at hs;have qy:(bs q).tg=0:=by omega
 have hpn:zH (m.recover n q) q g.all.o=none:=by
  show pq q ((m.recover n q).ah g.o).pend=none
  rw [zn,<-ho,hp];rfl
 have huf:upd (D8 (m.recover n q)) n false g.all.o=false:=by show upd _ n false g.o=false;rw [<-ho];exact upd_same _ _ _
 have hVo:vw (m.recover n q) q g.all.o=bs q:=by show vw (m.recover n q) q g.o=_;rw [<-ho];exact hV1
 have I2:=Inv.append (e:=aP) (b:=iy (bs q)) I1 hpn huf (by rw [hVo];omega) rfl hgd (by rw [hVo];rfl) (by rw [hVo];exact hr.symm) (by rw [hVo];exact qy.symm) (by show (bs q).evs++[aP]=_;rw [hev];rfl);obtain ⟨s1,s2,s3⟩:=good_step hgd;have aya:rp dX (zG (m.recover n q) q)=some (aH g.G).1:=by
  have:=I1.rps;rwa [show g.all.G.take g.all.F=g.G from List.take_length] at this
 have I3:=I2.told (sv2:=[⟨n,q,g.m,aP,eP,-1⟩]) rfl (by rw [DW aya s1 (acW s2)];show _=some (aH (g.G++[aP])).1;rw [s3]) λs hs=>by rw [List.mem_singleton] at hs;subst hs;exact ⟨rfl,ho⟩
 refine ⟨(g.all.app aP).all,?_,⟨Nat.le_refl _,λ_ _=>rfl,by show (g.G++[aP]).length<=_;simp⟩,rfl,ho.symm,ho,rfl,rfl⟩;unfold vP;rw [if_neg (λh=>h hr),hw];have dV:(((m.recover n q).bn n q (iy (bs q))).tell n q aP eP (-1)).ah=upd (m.recover n q).ah n (((m.recover n q).ah n).bn q (iy (bs q))):=rfl;have hur:((m.recover n q).ah n).up=true:=by rw [zn];exact hu
 have gG:(((m.recover n q).ah n).bn q (iy (bs q))).view q=iy (bs q):=by rw [gL (X:=((m.recover n q).ah n).bn q _) hur];exact upd_same _ _ _
 have e0:(((m.recover n q).bn n q (iy (bs q))).ah n).bs q=iy (bs q):=by
  show ((upd (m.recover n q).ah n _) n).bs q=_
  rw [upd_same];exact upd_same _ _ _
 unfold QD;have e1:zI (((m.recover n q).bn n q (iy (bs q))).tell n q aP eP (-1)) q=upd (zI (m.recover n q) q) g.o ((g.m:Int),((g.G++[aP]).length:Int)):=by
  show (λj=>gX (m.recover n q).shown n q _ j q)=_
  rw [FE,e0]
  show upd _ n ((bs q).ep,((((bs q).evs++[aP]).length:Nat):Int))=_
  rw [eD,hev,ho];rfl
 have e2:zG (((m.recover n q).bn n q (iy (bs q))).tell n q aP eP (-1)) q=zG (m.recover n q) q++[⟨n,q,g.m,aP,eP,-1⟩]:=by
  show ((m.recover n q).aU++_).filter _=_
  rw [tJ,if_pos rfl,e0]
  show _++[(⟨n,q,(bs q).ep,aP,eP,-1⟩:kJ)]=_
  rw [eD];rfl
 have e3:vw (((m.recover n q).bn n q (iy (bs q))).tell n q aP eP (-1)) q=upd (vw (m.recover n q) q) g.all.o (iy (bs q)):=by
  rw [tZ dV,gG]
  show upd _ n _=upd _ g.o _
  rw [<-ho]
 rw [e1,e2,e3,rU dV rfl,lM dV rfl];exact I3.yE λx hx=>by
  obtain ⟨x1,x2⟩:=hx
  rcases x2 with x2 | ⟨j,hj,x2⟩
  ·exact .inl ⟨x1,.inl x2⟩
  rw [dV] at x2;by_cases e:j=n
  ·subst e;rw [upd_same] at x2;exact .inl ⟨x1,.inr ⟨j,hj,x2⟩⟩
  rw [upd_ne e] at x2;exact .inl ⟨x1,.inr ⟨j,hj,x2⟩⟩
theorem SY {bs:Nat->bK} (hn:n<5): ∀ (ql:List Nat) {m:Cl},QD m q g n->(m.ah n).up=true->q ∉ ql->QD (ql.foldl (vP n bs) m) q g n/\vw (ql.foldl (vP n bs) m) q=vw m q
 | [],m,I,_,_=>⟨I,rfl⟩
 | q'::r,m,I,hu,hq=>by
  rw [List.mem_cons,not_or] at hq;obtain ⟨I1,e1,h1,_,_⟩:=I.far hn hu (λe=>hq.1 e.symm) (EM (bs:=bs) m n q');obtain ⟨I2,e2⟩:=SY hn r I1 h1 hq.2;exact ⟨I2,e2.trans e1⟩
theorem OE {bs:Nat->bK} (hn:n<5) (hr:(bs q).role=1) (hw:fu (bs q)=(iy (bs q),0)) (hf:au (iy (bs q))=0) (hfb:au (bs q)=0): ∀ (ql:List Nat) {m:Cl},QD m q g n->(m.ah n).up=true->(m.ah n).pend=none->(m.ah n).bs q=bs q->q∈ql->ql.Nodup->
  ∃ g',QD (ql.foldl (vP n bs) m) q g' n/\mq g g'/\g'.m=g.m/\g'.o=n/\n=g.o/\g'.t=g'.m/\g'.F=g'.G.length
 | [],m,_,_,_,_,hq,_=>by simp at hq
 | q'::r,m,I,hu,hp,hb,hq,hnd=>by
  obtain ⟨h1,h2⟩:=List.nodup_cons.1 hnd;rw [List.foldl_cons];by_cases e:q'=q
  ·subst e;obtain ⟨g',I1,N1,k1,k2,k3,k4,k5⟩:=I.near hn hu hp hb hr hw hf hfb;obtain ⟨b,hW⟩:=(EM (bs:=bs) m n q').ah;have hu1:((vP n bs m q').ah n).up=true:=by rw [hW,upd_same];exact hu
   obtain ⟨I2,_⟩:=SY hn r I1 hu1 h1;exact ⟨g',I2,N1,k1,k2,k3,k4,k5⟩
  have hq':q∈r:=by
   rcases List.mem_cons.1 hq with h | h
   ·exact absurd h.symm e
   exact h
  obtain ⟨I1,e1,u1,b1,p1⟩:=I.far hn hu e (EM (bs:=bs) m n q');exact OE hn hr hw hf hfb r I1 u1 (p1.trans hp) (b1.trans hb) hq' h2
theorem Kk {s:Int} {f:Nat->bK}: ∀ (ql:List Nat) {d d':List UInt8},eH s f ql d=some d'->d'.length<=d.length+46*ql.length
 | [],d,d',h=>by cases h;simp
 | q::r,d,d',h=>by
  rw [eH] at h;rw [List.length_cons]
  split at h
  ·have:=Kk r h;omega
  split at h
  ·cases h
  split at h
  ·cases h
  rename_i d2 hw
  obtain ⟨w1,_,_⟩:=rT hw;have h1:=Kk r h;have h2:=EF [fI 2 q (f q).ep 0 aP];rw [w1,List.length_append] at h1;simp only [List.length_cons,List.length_nil] at h2;omega
theorem abx {T S D K:Nat} (I:QI m q g) (hB:fK m T S D K) (hn:n<5) (hq:q<4):(∃ g',QI (m.start n) q g'/\mq g g'/\CO q g g' m (m.start n))/\ ∀ j,((m.start n).ah j).data.length<=(m.ah j).data.length+184:=by
 rcases Hw (hB.kY n hn) with ⟨_,e⟩ | ⟨hu,rs,t,f,hd,e | ⟨ws,e1,e2,e3,W,e5,e6,e7⟩⟩
 ·rw [e];exact ⟨⟨g,I,.refl g,λ_ h=>h⟩,λ_=>Nat.le_add_right _ _⟩
 ·rw [e];exact ⟨⟨g,I,.refl g,λ_ h=>h⟩,λ_=>Nat.le_add_right _ _⟩
 have hin:q∈[0,1,2,3]:=by
  have h:q=0\/q=1\/q=2\/q=3:=by omega
  rcases h with rfl | rfl | rfl | rfl<;>decide
 have hvb:=hd.rd.2.2 q hq;have hVn:vw m q n=f q:=hd.view hu hq;obtain ⟨hfb,hr2⟩:=hd.nC q hq;obtain ⟨m1,hm1⟩: ∃ m1,m1=m.put n { (m.ah n).blank with up:=true,data:=bJ (rs++ws),syn:=(bJ (rs++ws)).length,bs:=bI (m.ah n).data (m.ah n).syn }:=⟨_,rfl⟩;have zn:m1.ah=upd m.ah n { (m.ah n).blank with up:=true,data:=bJ (rs++ws),syn:=(bJ (rs++ws)).length,bs:=bI (m.ah n).data (m.ah n).syn }:=by rw [hm1];rfl
 have ank:({ (m.ah n).blank with up:=true,data:=bJ (rs++ws),syn:=(bJ (rs++ws)).length,bs:=bI (m.ah n).data (m.ah n).syn }:Nd).view q=(m.ah n).view q:=by
  rw [gL rfl];unfold Nd.view;rw [if_neg (by rw [hu];simp)]
 have ala:=nV zn ank;have ayb:zH m1 q=zH m q:=rU zn (by rw [hd.tY];rfl);have ayc:upd (D8 m1) n false=D8 m:=by rw [U1 zn,tC];exact aI hu
 have I1:QD m1 q g n:=by
  unfold QD;rw [ala,ayb,ayc];have hoff:m1.off=m.off:=by rw [hm1];rfl
  have hsh:zI m1 q=zI m q:=by rw [hm1];rfl
  have hsv:zG m1 q=zG m q:=by rw [hm1];rfl
  rw [hoff,hsh,hsv];exact I.yE (xu zn (λx hx=>by cases hx) hn (by rw [hm1];rfl))
 have hu1:(m1.ah n).up=true:=by rw [zn,upd_same]
 have hp1:(m1.ah n).pend=none:=by rw [zn,upd_same];rfl
 have hb1:(m1.ah n).bs q=bI (m.ah n).data (m.ah n).syn q:=by rw [zn,upd_same]
 have eX:(m.start n).ah=upd m.ah n { (m.ah n).blank with up:=true,data:=bJ (rs++ws),syn:=(bJ (rs++ws)).length,bs:=λq=>if q∈[0,1,2,3]/\(bI (m.ah n).data (m.ah n).syn q).role=1 then iy (bI (m.ah n).data (m.ah n).syn q) else bI (m.ah n).data (m.ah n).syn q }:=by
  rw [W.ah,bM];exact tC _ _ _ _
 have apK:D8 (m.start n)=upd (upd (D8 (m.start n)) n false) n true:=by
  rw [tC];refine (aI ?_).symm;unfold D8;rw [eX,upd_same]
 rw [<-hm1,Dw] at e1;refine ⟨?_,λj=>?_⟩
 ·by_cases hr:(bI (m.ah n).data (m.ah n).syn q).role=1
  ·have hf1:au (iy (bI (m.ah n).data (m.ah n).syn q))=0:=by rw [hvb] at hr⊢;exact e7 q hq hr
   have hw1:fu (bI (m.ah n).data (m.ah n).syn q)=(iy (bI (m.ah n).data (m.ah n).syn q),0):=by
    unfold fu;rw [if_neg (λh=>h (by rw [hvb];exact hfb)),if_neg (by omega),if_neg (λh=>h hf1)];rfl
   obtain ⟨g',I2,N2,k1,k2,k3,k4,k5⟩:=OE hn hr hw1 hf1 (by rw [hvb];exact hfb) [0,1,2,3] I1 hu1 hp1 hb1 hin (by decide);rw [<-e1] at I2;have I3:=Inv.up I2 n λ_=>⟨k4,k5⟩;refine ⟨g',?_,N2,λ_ h=>?_⟩
   ·unfold QI;rw [apK];exact I3
   rw [<-k3,hVn,<-hvb] at h;omega
  have aby:QD (m.start n) q g n/\vw (m.start n) q=vw m1 q:=by
   rw [e1];have key: ∀ (ql:List Nat) {m':Cl},QD m' q g n->(m'.ah n).up=true->QD (ql.foldl (vP n (bI (m.ah n).data (m.ah n).syn)) m') q g n/\vw (ql.foldl (vP n (bI (m.ah n).data (m.ah n).syn)) m') q=vw m' q:=by
    intro ql
    induction ql with
    | nil=>intro m' I' _;exact ⟨I',rfl⟩
    | cons q' r ih=>
     intro m' I' hu';rw [List.foldl_cons];by_cases e:q'=q
     ·subst e;have:vP n (bI (m.ah n).data (m.ah n).syn) m' q'=m':=if_pos hr;rw [this];exact ih I' hu'
     obtain ⟨I3,v3,u3,_,_⟩:=I'.far hn hu' e (EM (bs:=bI (m.ah n).data (m.ah n).syn) m' n q');obtain ⟨I4,v4⟩:=ih I3 u3;exact ⟨I4,v4.trans v3⟩
   exact key _ I1 hu1
  have hst:n=g.o->g.t=g.m/\g.F=g.G.length:=λho=>by
   have h3:(vw (m.start n) q g.o).role=3:=by
    rw [aby.2,ala,<-ho,hVn];have:=I.arl;rw [<-ho,hVn] at this;rw [hvb] at hr;omega
   have hF:=aby.1.slF h3;refine ⟨?_,hF⟩
   rcases aby.1.KT with h | ⟨_,_,_,h,_⟩
   ·exact h.1
   omega
  have I3:=Inv.up aby.1 n hst;refine ⟨g,?_,.refl g,λ_ h=>by rw [aby.2,ala];exact h⟩;unfold QI;rw [apK];exact I3
 rw [eX];by_cases e:j=n
 ·subst e;rw [upd_same]
  show (bJ (rs++ws)).length<=_
  have hww:=Kk [0,1,2,3] e3;rw [hd.rd.1] at hww;dsimp only at hww;have:=congrArg List.length hd.data;rw [List.length_append] at this;simp only [List.length_cons,List.length_nil] at hww;omega
 rw [upd_ne e];exact Nat.le_add_right _ _
end
section
variable {m m' m2:Cl} {n q k:Nat} {g g' g2:Gh}
theorem afe {T S D K:Nat} (hB:fK m T S D K) (hn:n<5) {j:Nat} (hj:j≠n):(m.step n).ah j=m.ah j:=by
 cases hu:(m.ah n).up with
 | false=>rw [Bq hu]
 | true=>
  obtain ⟨rs,us,hU⟩:=(hB.kY n hn).Lv hu
  cases hp:(m.ah n).pend with
  | some p=>
   obtain ⟨h1,h2,h3⟩:=hU.UW p hp;obtain ⟨_,hf⟩:=oN hU.tape hU.nC h2 h3;obtain ⟨Y,y1,_⟩:=UZ rfl hu hp h3 hf h2;rw [y1,upd_ne hj]
  | none=>
   have R:=SK hu ⟨us,hU⟩ λl hl=>ED (hB.mP n hn l hl);rw [uL hu hp]
   split
   ·show upd (m.more n).ah n _ j=_
    rw [upd_ne hj];exact R.uU j hj
   exact R.uU j hj
theorem OG (m:Cl) (l:iD) (j:Nat):((m.come l).ah j).data=(m.ah j).data:=by
 unfold Cl.come
 split
 ·rfl
 split
 ·split<;>rfl
 split
 ·show ((upd m.ah l.tg.toNat _) j).data=_
  by_cases e:j=l.tg.toNat
  ·rw [e,upd_same]
  rw [upd_ne e]
 rfl
theorem K6: ∀ (ls:List iD) (m:Cl) (j:Nat),((ls.foldl Cl.come m).ah j).data=(m.ah j).data
 | [],_,_=>rfl
 | l::ls,m,j=>(K6 ls (m.come l) j).trans (OG m l j)
theorem abz (m:Cl) (at_:Nat) (c s:Bool) (j:Nat):((m.pick at_ c s).ah j).data=(m.ah j).data:=by
 unfold Cl.pick
 split
 ·rfl
 dsimp only
 split
 ·rw [OG]
  split<;>rfl
 split<;>rfl
structure Later (q:Nat) (g g':Gh) (m m':Cl):Prop where
 mle:g.m<=g'.m
 own: ∀ k,k<=g.m->g'.own k=g.own k
 iM:CO q g g' m m'
theorem Later.refl:Later q g g m m:=⟨Nat.le_refl _,λ_ _=>rfl,λ_ h=>h⟩
theorem Later.trans (h:Later q g g' m m') (h':Later q g' g2 m' m2):Later q g g2 m m2:=by
 refine ⟨Nat.le_trans h.mle h'.mle,λk hk=>(h'.own k (Nat.le_trans hk h.mle)).trans (h.own k hk),λe h3=>?_⟩;have h1:=h.mle;have h2:=h'.mle;have e1:g'.m=g.m:=by omega
 have eo:g'.o=g.o:=by unfold Gh.o;rw [e1];exact h.own _ (Nat.le_refl _)
 have:=h'.iM (by omega) (by rw [eo];exact h.iM e1 h3);rwa [eo] at this
theorem mq.later (h:mq g g') (h':CO q g g' m m'):Later q g g' m m':=⟨h.m,h.own,h'⟩
structure LW (m:Cl) (q:Nat) (g:Gh) (k:Nat):Prop where
 qi:QI m q g
 akn:g.G.length<=k
 data: ∀ n,n<5->(m.ah n).data.length<=184*k
theorem aiE {a:Ac} (h:LW m q g k) (hB:Bs m k) (ha:Lx a) (h1:a.kd≠1) (hq:q<4) (hk:k<=540): ∃ g',LW (m.act a) q g' (k+1)/\Later q g g' m (m.act a):=by
 obtain ⟨I,hG,hD⟩:=h;obtain ⟨a1,a2,a3,a4,a5,a6⟩:=ha;have hn:a.nd.toNat<5:=by omega
 have hqu:a.qu.toNat<4:=by omega
 have fin: ∀ {m':Cl} {g':Gh},QI m' q g'->mq g g'->CO q g g' m m'->(∀ n,n<5->(m'.ah n).data.length<=(m.ah n).data.length+184)-> ∃ g',LW m' q g' (k+1)/\Later q g g' m m':=λ{m' g'} I' N s hd=>
  ⟨g',⟨I',by have:=N.akn;omega,λn hn=>by have:=hd n hn;have:=hD n hn;omega⟩,N.later s⟩
 unfold Cl.act;rw [if_neg h1]
 split
 ·obtain ⟨I2,e2⟩:=aeE (l:=Qr a.nd a.qu.toNat a.op m.calls) (c:=m.calls+1) I rfl;exact fin I2 (.refl g) (λ_ h=>by rw [e2];exact h) λn _=>Nat.le_add_right _ _
 split
 ·obtain ⟨⟨g',I2,N2,s2⟩,d2⟩:=aeC I hB hn (by have:=hD _ hn;omega) (by omega);refine fin I2 N2 s2 λj hj=>?_;by_cases e:j=a.nd.toNat
  ·rw [e];exact d2
  rw [afe hB hn e];exact Nat.le_add_right _ _
 split
 ·obtain ⟨I2,e2⟩:=aeD (at_:=a.at_.toNat) (c:=decide (a.kd≠5)) (s:=decide (a.kd=6)) I hB.vJ hq;exact fin I2 (.refl g) (λ_ h=>by rw [e2];exact h) λn _=>by rw [abz];exact Nat.le_add_right _ _
 split
 ·obtain ⟨I2,e2⟩:=aij I hB.vJ hq;refine fin I2 (.refl g) (λ_ h=>by rw [e2];exact h) λn _=>?_;unfold Cl.all;rw [K6];exact Nat.le_add_right _ _
 split
 ·obtain ⟨⟨g',I2,N2,s2⟩,d2⟩:=aaP (keep:=a.kp) I hB hn hq a5.1;exact fin I2 N2 s2 λj _=>Nat.le_add_right_of_le (d2 j)
 split
 ·obtain ⟨⟨g',I2,N2,s2⟩,d2⟩:=abx I hB hn hq;exact fin I2 N2 s2 λj _=>d2 j
 obtain ⟨I2,s2,d2⟩:=aeF (tg:=a.nd) I hB hqu hq;exact fin I2 (.refl g) (λ_ h=>s2 h) λj _=>by rw [d2 j];exact Nat.le_add_right _ _
theorem Po (hq:q<4): ∀ (l:List Ac) {m:Cl} {g:Gh} {k:Nat},LW m q g k->Bs m k->(∀ a∈l,Lx a/\a.kd≠1)->k+l.length<=540-> ∃ g',LW (m.run l) q g' (k+l.length)/\Bs (m.run l) (k+l.length)/\Later q g g' m (m.run l)
 | [],m,g,k,h,hB,_,_=>⟨g,h,hB,.refl⟩
 | a::l,m,g,k,h,hB,ha,hk=>by
  rw [List.length_cons] at hk;obtain ⟨a1,a2⟩:=ha a (by simp);obtain ⟨g1,h1,r1⟩:=aiE h hB a1 a2 hq (by omega);obtain ⟨g2,h2,b2,r2⟩:=Po hq l h1 (JB hB a1 (by omega)) (λx hx=>ha x (by simp [hx])) (by omega);rw [List.length_cons,show k+(l.length+1)=k+1+l.length by omega];exact ⟨g2,h2,b2,r1.trans r2⟩
end
def abA (n q:Nat):Ac:=⟨1,n,q,0,0,0,0,0,0,0,0⟩
theorem ajz {n q:Nat} (hn:n<5) (hq:q<4):Lx (abA n q):=⟨by show (1:Int)<=1/\(1:Int)<=10;omega,by show 0<=(n:Int)/\(n:Int)<=4;omega,by show 0<=(q:Int)/\(q:Int)<=3;omega,by show (0:Int)<=0/\(0:Int)<=1048576;omega,by show (0:Int)<=0/\(0:Int)<=100000;omega,λh=>absurd (show (1:Int)=2 from h) (by decide)⟩
theorem YZ {m:Cl} {n q:Nat} {d:Dir} {x:List UInt8} (hu:(m.ah n).up=true) (hp:(m.ah n).pend=none) (hd:rE m.off q n=(d,0)) (hb:iZ ((m.ah n).bs q) 1=(⟨1,1,0,0,0,[]⟩,0)) (hw:eO (m.ah n).data (m.ah n).syn [fI 1 q 1 0 aT]=some x):
  m.make n q={ m.put n { m.ah n with data:=x,syn:=x.length,bs:=upd (m.ah n).bs q ⟨1,1,0,0,0,[]⟩ } with off:=d,shown:=gX m.shown n q (1,0) }:=by
 obtain ⟨X,hX⟩: ∃ X,m.ah n=X:=⟨_,rfl⟩;rw [hX] at hu hp hb hw⊢;unfold Cl.make Nd.write;rw [hX,hd,hb,hw,if_neg (by rw [hu,hp];simp),if_neg (by simp)];rfl
def CU (q:Nat):List UInt8:=bJ [fI 1 q 1 0 aT]
def CV (q:Nat):Nd:={ nd0 with data:=CU q,syn:=(CU q).length,bs:=upd (λ_=>bG) q ⟨1,1,0,0,0,[]⟩ }
def abB:Cl:={ dZ with ah:=upd dZ.ah 0 (CV 0),off:=⟨⟨0,1⟩,nowhere,nowhere,nowhere⟩,shown:=gX dZ.shown 0 0 (1,0) }
def yL:Cl:={ dZ with ah:=upd (upd dZ.ah 0 (CV 0)) 1 (CV 1),off:=⟨⟨0,1⟩,⟨1,1⟩,nowhere,nowhere⟩,shown:=gX (gX dZ.shown 0 0 (1,0)) 1 1 (1,0) }
theorem ajA {q:Nat} (hq:q<4):eO nd0.data nd0.syn [fI 1 q 1 0 aT]=some (CU q):=by
 have:=Dr (rs:=[fI 1 q 1 0 aT]) (l:=[]) (s:=0) (λr hr=>by rw [List.mem_singleton] at hr;subst hr;exact xL (by omega) hq (by omega) (by omega) (by decide)) (by omega) (by simp) (by simp);rw [List.nil_append] at this;exact this
theorem dmk {d:Dir} {q n:Nat} (hd: ∀ k,k<4->xY (d.at k)) (hq:q<4) (hn:n<5) (ha:d.at q=nowhere):rE d q n=(d.set q ⟨n,1⟩,0):=by
 unfold rE;rw [OL (GJ hd) (by omega)];dsimp only;rw [if_neg (by simp),if_neg (by omega),if_neg (by rw [Int.toNat_natCast];exact λh=>h ha),Int.toNat_natCast]
theorem Vd:dZ.act (abA 0 0)=abB:=by
 show dZ.make 0 0=_
 rw [YZ (d:=⟨⟨0,1⟩,nowhere,nowhere,nowhere⟩) (x:=CU 0) rfl rfl (dmk (d:=⟨nowhere,nowhere,nowhere,nowhere⟩) (q:=0) (n:=0) (λk hk=>by
  have h:k=0\/k=1\/k=2\/k=3:=by omega
  rcases h with rfl | rfl | rfl | rfl<;>exact .inl ⟨rfl,rfl⟩) (by omega) (by omega) rfl) (Pd (q:=0) Pf rfl (by decide) (by omega)).1 (ajA (by omega))]
 rfl
theorem ac8:abB.act (abA 1 1)=yL:=by
 show abB.make 1 1=_
 rw [YZ (d:=⟨⟨0,1⟩,⟨1,1⟩,nowhere,nowhere⟩) (x:=CU 1) rfl rfl (dmk (d:=⟨⟨0,1⟩,nowhere,nowhere,nowhere⟩) (q:=1) (n:=1) (λk hk=>by
  have h:k=0\/k=1\/k=2\/k=3:=by omega
  rcases h with rfl | rfl | rfl | rfl<;>first | exact .inl ⟨rfl,rfl⟩ | exact .inr ⟨by decide,by decide,by decide,by decide⟩) (by omega) (by omega) rfl) (Pd (q:=1) Pf rfl (by decide) (by omega)).1 (ajA (by omega))]
 rfl
def g0 (q:Nat):Gh:=⟨1,λ_=>q,λ_=>0,[],0,1⟩
theorem asl {q:Nat} (hq:q<2):LW yL q (g0 q) 2:=by
 have hV: ∀ n,vw yL q n=if n=q then ⟨1,1,0,0,0,[]⟩ else bG:=λn=>by
  have hup:(yL.ah n).up=true:=by
   show (upd (upd dZ.ah 0 (CV 0)) 1 (CV 1) n).up=true
   unfold upd
   split
   ·rfl
   split<;>rfl
  rw [CJ hup]
  show (upd (upd dZ.ah 0 (CV 0)) 1 (CV 1) n).bs q=_
  have h:q=0\/q=1:=by omega
  rcases h with rfl | rfl
  ·by_cases e1:n=1
   ·subst e1;rfl
   by_cases e0:n=0
   ·subst e0;rfl
   rw [upd_ne e1,upd_ne e0,if_neg e0];rfl
  by_cases e1:n=1
  ·subst e1;rfl
  by_cases e0:n=0
  ·subst e0;rfl
  rw [upd_ne e1,upd_ne e0,if_neg e1];rfl
 have hP: ∀ n,zH yL q n=none:=λn=>by
  unfold zH;have:(yL.ah n).pend=none:=by
   show (upd (upd dZ.ah 0 (CV 0)) 1 (CV 1) n).pend=none
   unfold upd
   split
   ·rfl
   split<;>rfl
  rw [this];rfl
 have hI: ∀ n,(yL.ah n).inbox=[]:=λn=>by
  show (upd (upd dZ.ah 0 (CV 0)) 1 (CV 1) n).inbox=[]
  unfold upd
  split
  ·rfl
  split<;>rfl
 have hL: ∀ l,¬ MB yL q l:=λl h=>by
  rcases h.2 with h | ⟨j,_,h⟩
  ·cases h
  rw [hI j] at h;cases h
 have hoff:yL.off.at q=⟨q,1⟩:=by
  have h:q=0\/q=1:=by omega
  rcases h with rfl | rfl<;>rfl
 have hsh: ∀ n,zI yL q n=if n=q then (1,0) else (0,0):=λn=>by
  show gX (gX dZ.shown 0 0 (1,0)) 1 1 (1,0) n q=_
  have h:q=0\/q=1:=by omega
  rcases h with rfl | rfl
  ·unfold gX;rw [if_neg (by omega)];by_cases e:n=0
   ·rw [if_pos ⟨e,rfl⟩,if_pos e]
   rw [if_neg (λh=>e h.1),if_neg e];rfl
  unfold gX;by_cases e:n=1
  ·rw [if_pos ⟨e,rfl⟩,if_pos e]
  rw [if_neg (λh=>e h.1),if_neg e,if_neg (by omega)];rfl
 have ho:(g0 q).o=q:=rfl;have hVo:vw yL q (g0 q).o=⟨1,1,0,0,0,[]⟩:=by rw [hV,ho,if_pos rfl]
 have hm:(g0 q).m=1:=rfl;refine ⟨⟨Nat.le_refl _,λ_ _ _=>by show q<5;omega,λk h1 h2=>by rw [hm] at h2;omega,⟨1,hoff,Nat.le_refl _,.inl rfl⟩,by rw [hVo];rfl,by rw [hVo];rfl,by rw [hVo];exact .inl rfl,λh=>by rw [hVo] at h;exact absurd rfl h,xg,λn hn hne=>?_,λk h1 h2=>?_,λk h1 h2=>by rw [hm] at h2;omega,λl hl=>absurd hl (hL l),λn _ p hp=>(by rw [hP] at hp;cases hp),.inl ⟨rfl,?_,Nat.zero_le _⟩,λ_=>rfl,λ_=>rfl,λn _ hne=>?_,?_,⟨λs hs=>(by cases hs),λi a b ha=>(by cases ha),λs hs=>(by cases hs),λ_=>rfl⟩⟩,Nat.zero_le _,λn hn=>?_⟩
 ·rw [ho] at hne;rw [hV,if_neg hne];exact .inl ⟨rfl,by show (0:Int)<=0;omega,by show (0:Int)<1;omega⟩
 ·rw [hm] at h2;have:k=1:=by omega
  subst this
  show (1:Int)<=(vw yL q q).ep
  rw [hV,if_pos rfl]
  decide
 ·rw [hsh,ho,if_pos rfl];rfl
 ·rw [ho] at hne;rw [hsh,if_neg hne]
  show (0:Int)<1
  omega
 ·show rp dX []=some (aH (List.take 0 [])).1
  rw [List.take_nil,AA (l:=[]) (by simp) (show ig dX [] []=some (dX,[]) from rfl)];rfl
 have h1: ∀ q,(CU q).length<=46:=λq=>by have:=EF [fI 1 q 1 0 aT];simpa [CU] using this
 show (upd (upd dZ.ah 0 (CV 0)) 1 (CV 1) n).data.length<=_
 unfold upd
 split
 ·have:=h1 1;show (CU 1).length<=_;omega
 split
 ·have:=h1 0;show (CU 0).length<=_;omega
 show 0<=_;omega
theorem asn:Bs yL 2:=by
 rw [<-ac8,<-Vd];exact JB (JB akm (ajz (by omega) (by omega)) (by omega)) (ajz (by omega) (by omega)) (by omega)
theorem BL {n q k p i b he hn:Int} (h1:0<=n/\n<3) (h2:0<=q/\q<2) (hk:(k=1/\0<=p/\p<2/\0<=i/\i<24/\0<=b/\b<1000/\he=0/\hn=0)\/(k=2/\p=0/\i=0/\b=0/\he=0/\hn=0)\/(k=3/\p=0/\i=0/\b=0/\0<=he/\he<3/\0<=hn/\hn<6)):dz ⟨2,n,q,0,0,k,p,i,b,he,hn⟩=0:=by
 rcases hk with ⟨rfl,h3,h4,h5,h6,h7,h8,rfl,rfl⟩ | ⟨rfl,rfl,rfl,rfl,rfl,rfl⟩ | ⟨rfl,rfl,rfl,rfl,h3,h4,h5,h6⟩
 all_goals
  simp [dz,bS,Nu,Ac.get,Ac.ints,fin,yZ,zeros];omega
theorem aiF {k a b c:Int} (n q:Int) (h1:0<=n/\n<3) (h2:0<=q/\q<2):dz ⟨2,n,q,0,0,if (mR k a b c).kind=4 then 2 else (mR k a b c).kind,(mR k a b c).producer,(mR k a b c).id,(mR k a b c).body,(mR k a b c).aR,(mR k a b c).hno⟩=0:=by
 have p1:=pG (n:=a) (m:=2) (by decide);have p2:=pG (n:=b) (m:=24) (by decide);have p3:=pG (n:=c) (m:=1000) (by decide);have p4:=pG (n:=a) (m:=3) (by decide);have p5:=pG (n:=b) (m:=6) (by decide);unfold mR
 split
 ·exact BL h1 h2 (.inl ⟨rfl,p1.1,p1.2,p2.1,p2.2,p3.1,p3.2,rfl,rfl⟩)
 split
 ·exact BL h1 h2 (.inr (.inl ⟨rfl,rfl,rfl,rfl,rfl,rfl⟩))
 split
 ·exact BL h1 h2 (.inr (.inr ⟨rfl,rfl,rfl,rfl,p4.1,p4.2,p5.1,p5.2⟩))
 exact BL h1 h2 (.inr (.inl ⟨rfl,rfl,rfl,rfl,rfl,rfl⟩))
theorem Ve (g:Gr) (cr:Bool):dz (gH g cr)=0/\(gH g cr).kd≠1:=by
 have p1:=pG (n:=g.a) (m:=3) (by decide);have p2:=pG (n:=g.b) (m:=2) (by decide);have p3:=pG (n:=g.c) (m:=20) (by decide);have p4:=pG (n:=g.c) (m:=120) (by decide);unfold gH
 split
 ·exact ⟨aiF _ _ p1 p2,by unfold V9;dsimp only;omega⟩
 repeat' split
 all_goals
  refine ⟨?_,by dsimp only;omega⟩;simp [dz,bS,Nu,Ac.get,Ac.ints,fin,yZ,zeros]
  try omega
theorem aff: ∀ a∈mks,dz a=0:=by
 intro a ha;simp only [mks,List.mem_cons,List.not_mem_nil,or_false] at ha
 rcases ha with rfl | rfl<;>rfl
theorem sI (gs:List Gr) (m:Nat) (cr:Bool): ∀ a∈aY gs m cr,dz a=0:=by
 intro a ha
 rcases List.mem_append.1 ha with h | h
 ·exact aff a h
 obtain ⟨g,_,rfl⟩:=List.mem_map.1 h;exact (Ve g cr).1
theorem xP (gs:List Gr) (m:Nat) (cr:Bool):(aY gs m cr).length<=2+m:=by
 unfold aY mks;simp;omega
theorem take2 (gs:List Gr) (m:Nat) (cr:Bool) (i:Nat):dZ.run ((aY gs m cr).take (i+2))=yL.run (((gs.take m).map (gH · cr)).take i):=by
 show Cl.run ((dZ.act (abA 0 0)).act (abA 1 1)) (((gs.take m).map (gH · cr)).take i)=_
 rw [Vd,ac8]
theorem yM {gs:List Gr} {m:Nat} {cr:Bool} (hm:m<=500) {i j q:Nat} (hj:2<=j) (hi:j<=i) (hq:q<2): ∃ g g' k k',LW (dZ.run ((aY gs m cr).take j)) q g k/\LW (dZ.run ((aY gs m cr).take i)) q g' k'/\Later q g g' (dZ.run ((aY gs m cr).take j)) (dZ.run ((aY gs m cr).take i)):=by
 obtain ⟨j,rfl⟩: ∃ a,j=a+2:=⟨j-2,by omega⟩;obtain ⟨d,rfl⟩: ∃ d,i=j+d+2:=⟨i-j-2,by omega⟩;rw [take2,take2];have hok: ∀ a∈(gs.take m).map (gH · cr),Lx a/\a.kd≠1:=λa ha=>by
  obtain ⟨g,_,rfl⟩:=List.mem_map.1 ha;exact ⟨ab4 (Ve g cr).1,(Ve g cr).2⟩
 have hl:((gs.take m).map (gH · cr)).length<=500:=by rw [List.length_map,List.length_take];omega
 generalize (gs.take m).map (gH · cr)=l at hok hl⊢;obtain ⟨g1,h1,b1,_⟩:=Po (by omega) (l.take j) (asl hq) asn (λa ha=>hok a (List.mem_of_mem_take ha)) (by rw [List.length_take];omega);obtain ⟨g2,h2,b2,r2⟩:=Po (by omega) ((l.drop j).take d) h1 b1 (λa ha=>hok a (List.mem_of_mem_drop (List.mem_of_mem_take ha))) (by rw [List.length_take,List.length_take,List.length_drop];omega);have e:yL.run (l.take (j+d))=(yL.run (l.take j)).run ((l.drop j).take d):=by
  rw [List.take_add];exact List.foldl_append ..
 rw [e];exact ⟨g1,g2,_,_,h1,h2,r2⟩
section
variable {m:Cl} {q n k:Nat} {g:Gh}
theorem LW.acg (h:LW m q g k) (hn:n<5) (h3:((m.ah n).view q).role=3):((m.ah n).view q).ep<=g.m/\(((m.ah n).view q).ep=g.m->n=g.o):=by
 have I:=h.qi;by_cases e:n=g.o
 ·subst e;have:=I.Ae;unfold vw at this;exact ⟨by omega,λ_=>rfl⟩
 have:=I.uU n hn e;unfold vw at this
 rcases this with ⟨h1,_⟩ | ⟨k,h1,h2,h4,h5,_⟩ | ⟨k,h1,_⟩<;>exact ⟨by omega,λ_=>by omega⟩
theorem LW.aU (h:LW m q g k) (hn:n<5) (hs:serves ((m.ah n).view q)):n=g.o/\((m.ah n).view q).ep=g.m:=by
 have I:=h.qi;have e:=Inv.who I hn hs;have:=I.Ae;unfold vw at this;rw [<-e] at this;exact ⟨e,this⟩
end
end
section
open ChangeShapes WideShapes ChangeAt RowKit
theorem ayd:Tryz.prog.globalNamed "berthshift/cluster.unknown" =some 1:=by kernel_rfl
theorem afg:(Tryz.prog.globals[1]?).map (·.type)=some 32:=by kernel_rfl
theorem Y0 {W:World} {nm:String} {g:Nat} {d:DataW Unit} {r:List (String×DataW Unit)} (hn:Tryz.prog.globalNamed nm=some g) (ht:(Tryz.prog.globals[g]?).map (·.type)=some 32) (hdd:d= .agg [.lit (.int .i64 (-1)),.lit (.int .i64 0)]) (h:laidMet Tryz.prog ((nm,d)::r) W):
  W.cell? ⟨g,0,none⟩=some (.int .i64 (-1))/\W.cell? ⟨g,1,none⟩=some (.int .i64 0)/\g<W.heap.size:=by
 subst hdd;obtain ⟨ps,⟨g',t',cs,fuel,p,q,hg',ht',hvar,hd,_,_⟩,_⟩:=h;obtain rfl:=Option.some.inj (hn.symm.trans hg');obtain rfl:=Option.some.inj (ht.symm.trans ht');obtain ⟨y0,y1,n,e,hl,h0,h1⟩:=trod_struct2 Tryz.underlying32 hd;obtain ⟨m0,c0,rfl,_⟩:=DataW.trod_int Tryz.underlying3 h0;obtain ⟨m1,c1,rfl,_⟩:=DataW.trod_int Tryz.underlying3 h1;have e1:m0= -1/\m1=0:=by
  have:=congrArg Prod.fst e;simp at this;exact ⟨this.1.symm,this.2.symm⟩
 obtain ⟨rfl,rfl⟩:=e1;have hc1:Tryz.prog.cellsOf 3=1:=by kernel_rfl
 simp only [hc1] at c0 c1;have k0:cs[0]? =some (.int .i64 (-1)):=by
  have:=congrArg (·[0]?) c0;simpa [List.getElem?_take,List.getElem?_drop] using this
 have k1:cs[1]? =some (.int .i64 0):=by
  have:=congrArg (·[0]?) c1;simpa [List.getElem?_take,List.getElem?_drop] using this
 have a0:=(World.var?_cell hn hvar 0).trans k0;have a1:=(World.var?_cell hn hvar 1).trans k1;exact ⟨a0,a1,lt_of_cell a0⟩
theorem Jg {W:World} (h:laidMet Tryz.prog [("berthshift/directory.nowhere",Rows.laid_berthshift_directory_nowhere),("berthshift/cluster.unknown",Rows.laid_berthshift_cluster_unknown)] W):Uk W.heap.size W:=by
 obtain ⟨a,b,c⟩:=Y0 adq PX rfl h;obtain ⟨a2,b2,c2⟩:=Y0 ayd afg rfl (laidMet.tail h);exact ⟨a2,b2,c2,a,b,c⟩
def apL:Obj->Obj
 | .cells _ t frozen=> .cells #[.int .i64 (-1),.int .i64 0] t frozen
 | o=>o
noncomputable def jm (os:Os):World:=
 { World.holding Tryz.prog os ⟨#[],#[],[]⟩ with heap:=((World.holding Tryz.prog os ⟨#[],#[],[]⟩).heap.modify 0 apL).modify 1 apL }
def oP:Char:=Char.ofNat 32
theorem Uu (b:List Char):wordsSigns (oP::b)=[]::wordsSigns b:=rfl
theorem yN: ∀ (a b:List Char),a.all (λc=> !(c==oP))=true->wordsSigns (a++oP::b)=a::wordsSigns b
 | [],b,_=>Uu b
 | c::a,b,h=>by
  simp only [List.all_cons,Bool.and_eq_true,Bool.not_eq_true',beq_eq_false_iff_ne] at h;have ih:=yN a b h.2;rw [List.cons_append,wordsSigns,ih];intro e;exact h.1 e
end
end Go.Proofs.YthhnonpehllibaaGreatDoor
