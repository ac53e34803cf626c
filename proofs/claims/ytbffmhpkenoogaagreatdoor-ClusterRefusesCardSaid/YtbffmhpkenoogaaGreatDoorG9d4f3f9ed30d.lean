/- Parts of proofs: lemmas on memory, on single functions and on the plain models; no condition of their own. -/
import Derived.Test.YtbffmhpkenoogaaGreatDoorGec5820c8a4fc
import Derived.Test.YtbffmhpkenoogaaGreatDoorGf05bf9cba56a
set_option linter.unusedVariables false
set_option linter.unusedSimpArgs false
set_option linter.unnecessarySimpa false
set_option maxRecDepth 100000
set_option maxHeartbeats 8000000

namespace Go.Proofs.YtbffmhpkenoogaaGreatDoor
open Go.ChangeShapes Go.WideShapes Go.RowKit
theorem TH {K:CK} {B n kn kw:Nat} {w0 w:World} {fs:List Fact} {m:Cl} {H:List LX} {x:LX} (hn:n<5) (hkn:K.nb n=kn) (bR:K.wb=kw) (hu:Uk B w0) (hB1:m.fly.length≤1000000000) (hB2:m.aH.length≤1000000000000) (HW:Wd K B w0 w fs m (x::H)) (hq:x.l.q<4) (hv: ∀ q,q<4→au ((m.av n).bs q)=0) (hxe:x.l.evs.length≤2000):
    Calls Tryz.prog 124 #[pV kw 0,pV kn 0,.agg (LX.row x)] w (fun e w'=>e= .returned (.tuple #[])∧Wd K B w0 w' fs (m.got n x.l) H):=by
 obtain ⟨R,G,S0⟩:=HW.open hn;have hfl:R.fx.length=m.fly.length:=by rw [←G.fly,List.length_map]
 have NG:=G.lC n hn;obtain ⟨X,hX⟩: ∃ X,m.av n=X:=⟨_,rfl⟩;obtain ⟨z,hz⟩: ∃ z,R.nx n=z:=⟨_,rfl⟩;rw [hX,hz] at S0 NG;have hL: ∀ f∈R.L,f∈eZ K R m fs n:=fun f h=>List.mem_append_right _ (List.mem_append_right _ h)
 obtain ⟨rr,hrr⟩: ∃ r,eZ K R m fs n=r:=⟨_,rfl⟩;rw [hrr] at S0 hL;have S:St B w0 w ((.blk kn (aU n X.up (.slice z.tA X.data.length z.tc) X.syn (.slice (aD z.bb 0) 4 4) X.hints X.sure (.slice z.iA z.ix.length z.ic) (z.pv) X.turn) 129)::(.own 42 6 (.slice (aD z.bb 0) 4 4) 4 ((z.bx).flatMap BX.cells))::(.off 169 23 z.iA z.ix.length z.ic ((z.ix).flatMap LX.cells))::(.blk kw (bL (.slice R.nA 5 R.nc) m.off (.slice R.fA R.fx.length R.fc) m.shown (.slice R.sA m.aH.length R.sc) (.slice R.tA m.aM.length R.tc) m.calls) 121)::(.own 169 23 (.slice R.fA R.fx.length R.fc) R.fx.length ((R.fx).flatMap LX.cells))::(.own 85 14 (.slice R.sA m.aH.length R.sc) m.aH.length ((m.aH).flatMap eT.cells))::(.own 81 7 (.slice R.tA m.aM.length R.tc) m.aM.length ((m.aM).flatMap fK.cells))::rr):=by subst hkn;subst bR;exact S0
 clear S0 HW;have hlen:=(S.own 1 rfl).1;rw [gL (sz:=6) (fun _=>rfl)] at hlen;rw [hX] at hv;obtain ⟨y,hy,hyb,qZ⟩:=NG.at_ hq;have hln:=jC (iO (hyb▸hv _ hq));have wR:y.b.evs.length*48≤reachBytes:=by unfold reachBytes;omega
 have Iu:=uZ (hyb▸hv _ hq);have hxo:=G.hld x (List.mem_cons_self ..);have hbK:(x.l.evs.length+2001)*48≤reachBytes:=by unfold reachBytes;omega
 refine fE 108 Tryz.func124 ?_;refine cw [0,1,2] ?_;iterate 2 refine zQ ?_
 refine Qn S ?_;intro b1 w2 S3;refine Qn S3 ?_;intro b4 w5 S6;refine gD S6 ?_;intro b7 w8 S9;iterate 6 refine zQ ?_
 refine eU S9 zr3 ?_;intro b10 Ee lq;refine iU (row':= #[iV ((x.l.q:Nat):Int)]) 0 lq fM ?_;intro CG jH;iterate 3 refine zQ ?_
 have gH:=jH.drew;refine fG 9 8 gH [] ?_;iterate 5 refine iP ?_
 refine gk 5 rfl gH (fun _ _=>gM x.l.q) ?_;refine gk (v:= .agg #[iV y.b.role,iV y.b.ep,iV y.b.fr,iV y.b.tg,iV y.b.rd,.slice y.A y.b.evs.length y.c]) 6 rfl gH (fun _ Dr=>(aj rfl rfl (aG (cs:=BX.cells y) Tryz.underlying42 rfl aC rfl (Rd.uN (St.ord 5 Dr rfl) (fun _ _ h=>bS (enc:=BX.cells) (sz:=6) (fun _=>rfl) hy h))))) ?_;refine gW (m:=1) (r:=7) (by kernel_rfl) ?_;refine kS (i:=7) rfl rfl (V:=fun b=>pV b 0) (row:= #[iV 0,iV 0,iV 0,iV 0,iV 0,.slice none 0 0]) (t:=42) gH (wn rfl) rfl rfl (iN rfl (Tryz.zeroValue42 _) rfl) ?_;intro xX JU iX;refine iP ?_;refine eF (by kernel_rfl) rfl rfl rfl ?_;refine sa 0 iX aC ?_;intro IQ qJ;refine zQ ?_;refine je ?_;iterate 6 refine zQ ?_
 by_cases h28:y.b.role=4
 ·iterate 6 refine zQ ?_
  by_cases h29:y.b.fr=x.l.fr
  ·iterate 8 refine zQ ?_
   obtain ⟨BR,oz⟩: ∃ r,cB y.b x.l.ep x.l.at_ x.l.evs x.l.last=r:=⟨_,rfl⟩;have HP:=fun w hK h=>CS y.b.role y.b.ep y.b.fr y.b.tg y.b.rd y.A y.c y.b.evs x.l.ep x.l.at_ x.A x.c x.l.evs x.l.last qZ.2 hxo.2 w hK h wR hbK
   rw [show cB ⟨y.b.role,y.b.ep,y.b.fr,y.b.tg,y.b.rd,y.b.evs⟩ x.l.ep x.l.at_ x.l.evs x.l.last=BR from oz] at HP;iterate 10 refine zQ ?_
   refine dO agf (HP _ (hxo.1.rd qJ (memT 12 rfl hL)) (qZ.1.rd qJ (memT 12 rfl hL))) ?_;rintro _ Qp ⟨mX,c31,IJ,rfl,T35⟩;refine ⟨_,rfl,?_⟩;have oD:=qJ.ext T35 rfl;iterate 3 refine zQ ?_
   refine eU oD dK ?_;intro tH NQ oG;refine sa 0 oG aC ?_;intro w39 vV;iterate 7 refine zQ ?_
   by_cases h41:BR.2=2
   ·iterate 9 refine zQ ?_
    have tC:=vV.dM [13,13,13,13,13,13,13];refine dO QW (wP hn hq hy tC (by omega)) ?_;rintro _ w47 ⟨rfl,A43,c44,av7,anK,qX⟩;refine ⟨_,rfl,?_⟩;refine zQ ?_;refine bN (l':=[]) trivial (gJ (nJ (fZ (dI (rs:=[]) (vs:=[]) rfl trivial ?_))));rw [abt hX hyb.symm oz (by omega) (by omega)];exact ⟨rfl,Wd.dw (X':=X) (z':=z) (Ls:=[.blk tH #[iV BR.1.role,iV BR.1.ep,iV BR.1.fr,iV BR.1.tg,iV BR.1.rd,.slice mX BR.1.evs.length c31] 42,.bG 6 mX BR.1.evs.length ((BR.1.evs).flatMap Ev.cells),.blk xX #[iV y.b.role,iV y.b.ep,iV y.b.fr,iV y.b.tg,iV y.b.rd,.slice y.A y.b.evs.length y.c] 42,.blk b10 #[iV ((x.l.q:Nat):Int)] 3,.blk b7 (LX.row x) 169,.blk b4 #[pV kn 0] 122,.blk b1 #[pV kw 0] 111]) (fA:=A43) (fc:=c44) (fx:=av7) (sA:=R.sA) (sc:=R.sc) (tA:=R.tA) (tc:=R.tc) hkn bR hrr G hn qX NG.more (by rw [anK];exact nu (gY rfl)) (aQ hX).symm (by rw [anK,List.map_append,G.fly];rfl) mH⟩
   iterate 10 refine zQ ?_
   by_cases h49:BR.2=0
   ·iterate 8 refine zQ ?_
    by_cases h50:((BR.1.evs.length:Nat):Int)=((y.b.evs.length:Nat):Int)
    ·iterate 8 refine zQ ?_
     have sw:=vV.dM [13,13,13,13,13,13,13];rw [Oz hX hyb.symm oz (by omega) (by omega) (by omega)];exact ⟨rfl,Wd.dw (X':=X) (z':=z) (Ls:=[.blk tH #[iV BR.1.role,iV BR.1.ep,iV BR.1.fr,iV BR.1.tg,iV BR.1.rd,.slice mX BR.1.evs.length c31] 42,.bG 6 mX BR.1.evs.length ((BR.1.evs).flatMap Ev.cells),.blk xX #[iV y.b.role,iV y.b.ep,iV y.b.fr,iV y.b.tg,iV y.b.rd,.slice y.A y.b.evs.length y.c] 42,.blk b10 #[iV ((x.l.q:Nat):Int)] 3,.blk b7 (LX.row x) 169,.blk b4 #[pV kn 0] 122,.blk b1 #[pV kw 0] 111]) (fA:=R.fA) (fc:=R.fc) (fx:=R.fx) (sA:=R.sA) (sc:=R.sc) (tA:=R.tA) (tc:=R.tc) hkn bR hrr G hn sw NG.more (fun u hu=> .inl hu) (aQ hX).symm G.fly.symm mH⟩
    iterate 8 refine zQ ?_
    obtain ⟨ha0,ha1,ha2,ha3⟩:=XW oz (hyb▸hv _ hq) (by omega) (by omega);obtain ⟨M,hM⟩: ∃ k,k=x.l.at_.toNat+x.l.evs.length:=⟨_,rfl⟩;rw [←hM] at ha1 ha2;obtain ⟨m0,hm0⟩: ∃ k,k=M-y.b.evs.length:=⟨_,rfl⟩;refine zQ ?_;have oF:=vV.nil 205 10;iterate 10 refine zQ ?_
    refine vv (v:=iV ((M:Nat):Int)) (ah rfl rfl rfl (Yw (z:=((M:Nat):Int)) (by omega) (by omega))) ?_;iterate 12 refine zQ ?_
    obtain ⟨A2,hs2,hr2,_⟩:=Cx (P:=Tryz.prog) (t:=40) (enc:=Ev.cells) (s:=6) (fun _=>rfl) (A:=mX) (b:=BR.1.evs) (n:=BR.1.evs.length) (c:=c31) (lo:=(some (iV ((y.b.evs.length:Nat):Int)))) (hi:=(some (iV ((M:Nat):Int)))) (mx:=none) (l:=y.b.evs.length) (k:=M) (q:=c31) (m:=m0) (c':=c31-y.b.evs.length) Tryz.underlying40 jT (QS (y.b.evs.length) M rfl rfl (by omega) (by omega)) (by omega) (by omega) (by omega) hm0.symm rfl;obtain ⟨GE,hG⟩: ∃ g,g=(BR.1.evs.drop y.b.evs.length).take m0:=⟨_,rfl⟩;rw [←hG] at hr2;have hGl:GE.length=m0:=by rw [hG,List.length_take,List.length_drop];omega
    refine vv (v:= .slice A2 m0 (c31-y.b.evs.length)) (jq rfl rfl (iI rfl) (iI rfl) mD (hs2 _)) ?_;iterate 5 refine zQ ?_
    refine fH (X:=(List dx)×Nat×(Option Addr)×Nat) (fun xv=>[(3,pV b1 0),(4,pV b4 0),(5,pV b7 0),(6,pV b10 0),(8,pV tH 0),(76,.slice A2 m0 (c31-y.b.evs.length)),(77,iV ((m0:Nat):Int)),(10,.slice xv.2.2.1 xv.2.1 xv.2.2.2),(78,iV ((xv.2.1:Nat):Int))]) (fun xv wr=>(xv.1=(GE.take xv.2.1).map (fun u=>fq 5 x.l.q BR.1.ep 0 u))∧(xv.2.1≤m0)∧(xv.2.1=xv.1.length)∧St B w0 wr ((.own 205 10 (.slice xv.2.2.1 xv.2.1 xv.2.2.2) xv.2.1 ((xv.1).flatMap dx.cells))::(.blk tH #[iV BR.1.role,iV BR.1.ep,iV BR.1.fr,iV BR.1.tg,iV BR.1.rd,.slice mX BR.1.evs.length c31] 42)::(.bG 6 mX BR.1.evs.length ((BR.1.evs).flatMap Ev.cells))::(.blk xX #[iV y.b.role,iV y.b.ep,iV y.b.fr,iV y.b.tg,iV y.b.rd,.slice y.A y.b.evs.length y.c] 42)::(.blk b10 #[iV ((x.l.q:Nat):Int)] 3)::(.blk b7 (LX.row x) 169)::(.blk b4 #[pV kn 0] 122)::(.blk b1 #[pV kw 0] 111)::(.blk kn (aU n X.up (.slice z.tA X.data.length z.tc) X.syn (.slice (aD z.bb 0) 4 4) X.hints X.sure (.slice z.iA z.ix.length z.ic) (z.pv) X.turn) 129)::(.own 42 6 (.slice (aD z.bb 0) 4 4) 4 ((z.bx).flatMap BX.cells))::(.off 169 23 z.iA z.ix.length z.ic ((z.ix).flatMap LX.cells))::(.blk kw (bL (.slice R.nA 5 R.nc) m.off (.slice R.fA R.fx.length R.fc) m.shown (.slice R.sA m.aH.length R.sc) (.slice R.tA m.aM.length R.tc) m.calls) 121)::(.own 169 23 (.slice R.fA R.fx.length R.fc) R.fx.length ((R.fx).flatMap LX.cells))::(.own 85 14 (.slice R.sA m.aH.length R.sc) m.aH.length ((m.aH).flatMap eT.cells))::(.own 81 7 (.slice R.tA m.aM.length R.tc) m.aM.length ((m.aM).flatMap fK.cells))::rr)) (fun xv=>m0-xv.2.1) ([],0,none,0) ?_ ?_ ?_
    ·exact ⟨(by simp),Nat.zero_le _,rfl,oF⟩
    ·exact ⟨rfl,rfl,rfl,rfl,rfl,rfl,rfl,rfl,rfl,trivial⟩
    rintro ⟨acc,k,A9,c9⟩ Wu ⟨J3,av8,acK,jw⟩
    try dsimp only at J3 av8 acK jw
    refine bq (l':=[(3,pV b1 0),(4,pV b4 0),(5,pV b7 0),(6,pV b10 0),(8,pV tH 0),(76,.slice A2 m0 (c31-y.b.evs.length)),(77,iV ((m0:Nat):Int)),(10,.slice A9 k c9),(78,iV ((k:Nat):Int))]) ⟨rfl,rfl,rfl,rfl,rfl,rfl,rfl,rfl,rfl,trivial⟩ (aW (aO ?_));by_cases h58:((k:Nat):Int)< ((m0:Nat):Int)
    ·iterate 10 refine zQ ?_
     obtain ⟨e,he⟩: ∃ e,GE[k]? =some e:=⟨_,List.getElem?_eq_getElem (by omega)⟩;refine zQ ?_;obtain ⟨rb,ro,hra,_,hrc⟩:=(hr2 _ _ (St.bG 2 jw rfl)).2 (by omega);subst hra;refine vv (gM k) ?_;refine vv (v:= .agg #[iV e.kind,iV e.producer,iV e.id,iV e.body,iV e.aL,iV e.hno]) (aj rfl rfl (aG (cs:=Ev.cells e) Tryz.underlying75 rfl jT rfl (fun j u hu=>by rw [Nat.add_assoc];exact hrc (k*6+j) u (bS (enc:=Ev.cells) (sz:=6) (fun _=>rfl) he hu)))) ?_;refine eU jw alU ?_;intro QE Qx Au;refine sa 0 Au jT ?_;intro VY uO;iterate 6 refine zQ ?_
     refine cab EN uO (iC 5 x.l.q ⟨BR.1,mX,c31⟩ _) ?_;intro GZ xV;refine eU xV uW ?_;intro b67 w68 xg;refine sa 0 xg jG ?_;intro UA qh;iterate 6 refine zQ ?_
     refine iU (row':= #[iV 5,iV ((x.l.q:Nat):Int),iV BR.1.ep,iV 0,iV e.kind,iV e.producer,iV e.id,iV e.body,iV e.aL,iV e.hno]) 0 qh jT ?_;intro VZ qL;iterate 5 refine zQ ?_
     refine Zo qL ?_;intro b74 w75 FP;refine dB (news:=[iV 5,iV ((x.l.q:Nat):Int),iV BR.1.ep,iV 0,iV e.kind,iV e.producer,iV e.id,iV e.body,iV e.aL,iV e.hno]) (xs':=(acc++[fq 5 x.l.q BR.1.ep 0 e]).flatMap dx.cells) 3 FP (wn rfl) rfl rfl rfl rfl rfl rfl (St.iG (xs:=[iV 5,iV ((x.l.q:Nat):Int),iV BR.1.ep,iV 0,iV e.kind,iV e.producer,iV e.id,iV e.body,iV e.aL,iV e.hno]) 0 FP rfl rfl rfl) Tryz.underlying176 KW rfl (by decide) (bZ rfl) (by simp only [maxLen];omega) (by omega) (jZ (enc:=dx.cells) rfl rfl) ?_;intro A77 c78 w79 aDi aDj xG;change St _ _ _ (_::_::_::(.own 205 10 (.slice A77 (k+1) c78) (k+1) ((acc++[fq 5 x.l.q BR.1.ep 0 e]).flatMap dx.cells))::_::_::_::_::_::_::_::_::_::_::_::_::_::_::rr) at xG;iterate 5 refine zQ ?_
     refine vv (v:=iV ((k+1:Nat):Int)) jv ?_;iterate 2 refine zQ ?_
     have uj:=xG.aR [2,1,0];refine bY (acc++[fq 5 x.l.q BR.1.ep 0 e],k+1,A77,c78) ?_ ⟨rfl,rfl,rfl,rfl,rfl,rfl,rfl,rfl,rfl,trivial⟩ (by first | omega | (dsimp only;omega));exact ⟨(by dsimp only;rw [J3,List.take_add_one,he];simp),(by dsimp only;omega),(by dsimp only;simp [acK]),uj⟩
    iterate 14 refine zQ ?_
    refine vv (v:= .bool x.l.last) (aj rfl rfl (aA Tryz.underlying4 rfl (St.cl 5 jw rfl rfl))) ?_;refine qk [3,4,5,6,8,10,93] ?_;refine gJ ?_
    cases aDk:(x.l.last)
    ·refine bq (l':=[(3,pV b1 0),(4,pV b4 0),(5,pV b7 0),(6,pV b10 0),(8,pV tH 0),(10,.slice A9 k c9),(93,.bool false)]) ⟨rfl,rfl,rfl,rfl,rfl,rfl,rfl,trivial⟩ (kQ rfl (oU (gJ (aW (aW (aO (vv (aj rfl rfl (aA Tryz.underlying122 rfl (St.cl 6 jw rfl rfl))) ?_)))))));refine zQ ?_;have Bl:=jw.dM [14,14,14,14,14,14,14];refine dO Dk (CZ (nn:=k) (rs:=acc) (by simp [←acK]) (Ro.own (List.mem_iff_getElem?.2 ⟨0,rfl⟩)) NG.vO (by exact memT 8 rfl hL) (by omega) Bl) ?_;rintro _ w92 (⟨aiu,rfl,yR⟩ | ⟨anL,A87,c88,N89,aiu,rfl,aqi,yR⟩)
     ·refine ⟨_,rfl,?_⟩;iterate 7 refine zQ ?_
      have hgr:sM x.l.q BR.1 y.b.evs.length (x.l.at_.toNat+x.l.evs.length) x.l.last=acc:=by
       rw [←hM,Ch hG hm0 J3 (by omega),if_neg (by simp [*])];exact List.append_nil _
      rw [OB hX hyb.symm oz (by omega) (by omega) (by omega) (by rw [hgr];exact aiu)];exact ⟨rfl,Wd.dw (X':=X) (z':=z) (Ls:=[.own 205 10 (.slice A9 k c9) k ((acc).flatMap dx.cells),.blk tH #[iV BR.1.role,iV BR.1.ep,iV BR.1.fr,iV BR.1.tg,iV BR.1.rd,.slice mX BR.1.evs.length c31] 42,.bG 6 mX BR.1.evs.length ((BR.1.evs).flatMap Ev.cells),.blk xX #[iV y.b.role,iV y.b.ep,iV y.b.fr,iV y.b.tg,iV y.b.rd,.slice y.A y.b.evs.length y.c] 42,.blk b10 #[iV ((x.l.q:Nat):Int)] 3,.blk b7 (LX.row x) 169,.blk b4 #[pV kn 0] 122,.blk b1 #[pV kw 0] 111]) (fA:=R.fA) (fc:=R.fc) (fx:=R.fx) (sA:=R.sA) (sc:=R.sc) (tA:=R.tA) (tc:=R.tc) hkn bR hrr G hn yR NG.more (fun u hu=> .inl hu) (aQ hX).symm G.fly.symm mH⟩
     refine ⟨_,rfl,?_⟩;iterate 8 refine zQ ?_
     refine vv FM ?_;iterate 2 refine zQ ?_
     refine iU (row':=aU n X.up (.slice A87 anL.length c88) X.syn (.slice (aD z.bb 0) 4 4) X.hints X.sure (.slice z.iA z.ix.length z.ic) (.func (.func 161) #[] #[pV tH 0,pV b4 0,pV b10 0,pV b7 0,pV b1 0]) X.turn) 0 yR oC ?_;intro w94 Ef;refine zQ ?_;refine bN (l':=[]) trivial (aY (rs:=[]) (vs:=[]) rfl trivial ?_);have hgr:sM x.l.q BR.1 y.b.evs.length (x.l.at_.toNat+x.l.evs.length) x.l.last=acc:=by
      rw [←hM,Ch hG hm0 J3 (by omega),if_neg (by simp [*])];exact List.append_nil _
     rw [Z7 hX hyb.symm oz (by omega) (by omega) (by omega) (by rw [hgr];exact aiu)];refine ⟨rfl,Wd.fin (X':={ X with data:=anL,pend:=some (.got x.l.q BR.1 x.l.last) }) (z':={ z with tA:=A87,tc:=c88,pv:= .func (.func 161) #[] #[pV tH 0,pV b4 0,pV b10 0,pV b7 0,pV b1 0] }) (N:=N89) (Ls:=[.own 205 10 (.slice A9 k c9) k ((acc).flatMap dx.cells),.blk tH #[iV BR.1.role,iV BR.1.ep,iV BR.1.fr,iV BR.1.tg,iV BR.1.rd,.slice mX BR.1.evs.length c31] 42,.bG 6 mX BR.1.evs.length ((BR.1.evs).flatMap Ev.cells),.blk xX #[iV y.b.role,iV y.b.ep,iV y.b.fr,iV y.b.tg,iV y.b.rd,.slice y.A y.b.evs.length y.c] 42,.blk b10 #[iV ((x.l.q:Nat):Int)] 3,.blk b7 (LX.row x) 169,.blk b4 #[pV kn 0] 122,.blk b1 #[pV kw 0] 111]) (fA:=R.fA) (fc:=R.fc) (fx:=R.fx) (sA:=R.sA) (sc:=R.sc) (tA:=R.tA) (tc:=R.tc) hkn bR hrr G hn Ef ?_ (fun u hu=> .inl hu) rfl G.fly.symm mH⟩;refine { (NG.more:dz K _ n X z) with vO:=aqi.mono mLN,zN:=?_ }
     show nU (K.nb n) K.wb _ _ _
     rw [hkn,bR];exact ⟨tH,b4,b10,b7,b1,⟨BR.1,mX,c31⟩,x,rfl,(qz (List.mem_iff_getElem?.2 ⟨1,rfl⟩)),rfl,⟨(Ro.bG (qz (List.mem_iff_getElem?.2 ⟨2,rfl⟩))),IJ⟩,(qz (List.mem_iff_getElem?.2 ⟨6,rfl⟩)),(qz (List.mem_iff_getElem?.2 ⟨4,rfl⟩)),(qz (List.mem_iff_getElem?.2 ⟨5,rfl⟩)),rfl,(qz (List.mem_iff_getElem?.2 ⟨7,rfl⟩))⟩
    refine bq (l':=[(3,pV b1 0),(4,pV b4 0),(5,pV b7 0),(6,pV b10 0),(8,pV tH 0),(10,.slice A9 k c9),(93,.bool true)]) ⟨rfl,rfl,rfl,rfl,rfl,rfl,rfl,trivial⟩ (kP rfl (aO (vm ?_)));iterate 2 refine zQ ?_
    refine cab EN jw (iC 6 x.l.q ⟨BR.1,mX,c31⟩ _) ?_;intro Qv uP;refine Zo uP ?_;intro b99 V5 sG;refine dB (news:=[iV 6,iV ((x.l.q:Nat):Int),iV BR.1.ep,iV 0,iV 0,iV 0,iV 0,iV 0,iV 0,iV 0]) (xs':=(acc++[fq 6 x.l.q BR.1.ep 0 aT]).flatMap dx.cells) 1 sG (wn rfl) rfl rfl rfl rfl rfl rfl (St.iG (xs:=[iV 6,iV ((x.l.q:Nat):Int),iV BR.1.ep,iV 0,iV 0,iV 0,iV 0,iV 0,iV 0,iV 0]) 0 sG rfl rfl rfl) Tryz.underlying176 KW rfl (by decide) (bZ rfl) (by simp only [maxLen];omega) (by omega) (jZ (enc:=dx.cells) rfl rfl) ?_;intro ah6 ah7 ank azh azi lD;iterate 8 refine zQ ?_
    have rC:=lD.dM [15,15,15,15,15,15,15];refine dO Dk (CZ (nn:=k+1) (rs:=acc++[fq 6 x.l.q BR.1.ep 0 aT]) (by simp [←acK]) (Ro.own (List.mem_iff_getElem?.2 ⟨1,rfl⟩)) NG.vO (by exact memT 9 rfl hL) (by omega) rC) ?_;rintro _ ah8 (⟨YX,rfl,uG⟩ | ⟨agU,acF,acG,av9,YX,rfl,ale,uG⟩)
    ·refine ⟨_,rfl,?_⟩;iterate 7 refine zQ ?_
     have hgr:sM x.l.q BR.1 y.b.evs.length (x.l.at_.toNat+x.l.evs.length) x.l.last=acc++[fq 6 x.l.q BR.1.ep 0 aT]:=by
      rw [←hM,Ch hG hm0 J3 (by omega),if_pos (by assumption)]
     rw [OB hX hyb.symm oz (by omega) (by omega) (by omega) (by rw [hgr];exact YX)];exact ⟨rfl,Wd.dw (X':=X) (z':=z) (Ls:=[.blk b99 #[iV 6,iV ((x.l.q:Nat):Int),iV BR.1.ep,iV 0,iV 0,iV 0,iV 0,iV 0,iV 0,iV 0] 205,.own 205 10 (.slice ah6 (k+1) ah7) (k+1) ((acc++[fq 6 x.l.q BR.1.ep 0 aT]).flatMap dx.cells),.blk tH #[iV BR.1.role,iV BR.1.ep,iV BR.1.fr,iV BR.1.tg,iV BR.1.rd,.slice mX BR.1.evs.length c31] 42,.bG 6 mX BR.1.evs.length ((BR.1.evs).flatMap Ev.cells),.blk xX #[iV y.b.role,iV y.b.ep,iV y.b.fr,iV y.b.tg,iV y.b.rd,.slice y.A y.b.evs.length y.c] 42,.blk b10 #[iV ((x.l.q:Nat):Int)] 3,.blk b7 (LX.row x) 169,.blk b4 #[pV kn 0] 122,.blk b1 #[pV kw 0] 111]) (fA:=R.fA) (fc:=R.fc) (fx:=R.fx) (sA:=R.sA) (sc:=R.sc) (tA:=R.tA) (tc:=R.tc) hkn bR hrr G hn uG NG.more (fun u hu=> .inl hu) (aQ hX).symm G.fly.symm mH⟩
    refine ⟨_,rfl,?_⟩;iterate 8 refine zQ ?_
    refine vv FM ?_;iterate 2 refine zQ ?_
    refine iU (row':=aU n X.up (.slice acF agU.length acG) X.syn (.slice (aD z.bb 0) 4 4) X.hints X.sure (.slice z.iA z.ix.length z.ic) (.func (.func 161) #[] #[pV tH 0,pV b4 0,pV b10 0,pV b7 0,pV b1 0]) X.turn) 0 uG oC ?_;intro W9 uI;refine zQ ?_;refine bN (l':=[]) trivial (aY (rs:=[]) (vs:=[]) rfl trivial ?_);have hgr:sM x.l.q BR.1 y.b.evs.length (x.l.at_.toNat+x.l.evs.length) x.l.last=acc++[fq 6 x.l.q BR.1.ep 0 aT]:=by
     rw [←hM,Ch hG hm0 J3 (by omega),if_pos (by assumption)]
    rw [Z7 hX hyb.symm oz (by omega) (by omega) (by omega) (by rw [hgr];exact YX)];refine ⟨rfl,Wd.fin (X':={ X with data:=agU,pend:=some (.got x.l.q BR.1 x.l.last) }) (z':={ z with tA:=acF,tc:=acG,pv:= .func (.func 161) #[] #[pV tH 0,pV b4 0,pV b10 0,pV b7 0,pV b1 0] }) (N:=av9) (Ls:=[.blk b99 #[iV 6,iV ((x.l.q:Nat):Int),iV BR.1.ep,iV 0,iV 0,iV 0,iV 0,iV 0,iV 0,iV 0] 205,.own 205 10 (.slice ah6 (k+1) ah7) (k+1) ((acc++[fq 6 x.l.q BR.1.ep 0 aT]).flatMap dx.cells),.blk tH #[iV BR.1.role,iV BR.1.ep,iV BR.1.fr,iV BR.1.tg,iV BR.1.rd,.slice mX BR.1.evs.length c31] 42,.bG 6 mX BR.1.evs.length ((BR.1.evs).flatMap Ev.cells),.blk xX #[iV y.b.role,iV y.b.ep,iV y.b.fr,iV y.b.tg,iV y.b.rd,.slice y.A y.b.evs.length y.c] 42,.blk b10 #[iV ((x.l.q:Nat):Int)] 3,.blk b7 (LX.row x) 169,.blk b4 #[pV kn 0] 122,.blk b1 #[pV kw 0] 111]) (fA:=R.fA) (fc:=R.fc) (fx:=R.fx) (sA:=R.sA) (sc:=R.sc) (tA:=R.tA) (tc:=R.tc) hkn bR hrr G hn uI ?_ (fun u hu=> .inl hu) rfl G.fly.symm mH⟩;refine { (NG.more:dz K _ n X z) with vO:=ale.mono mLN,zN:=?_ }
    show nU (K.nb n) K.wb _ _ _
    rw [hkn,bR];exact ⟨tH,b4,b10,b7,b1,⟨BR.1,mX,c31⟩,x,rfl,(qz (List.mem_iff_getElem?.2 ⟨2,rfl⟩)),rfl,⟨(Ro.bG (qz (List.mem_iff_getElem?.2 ⟨3,rfl⟩))),IJ⟩,(qz (List.mem_iff_getElem?.2 ⟨7,rfl⟩)),(qz (List.mem_iff_getElem?.2 ⟨5,rfl⟩)),(qz (List.mem_iff_getElem?.2 ⟨6,rfl⟩)),rfl,(qz (List.mem_iff_getElem?.2 ⟨8,rfl⟩))⟩
   iterate 16 refine zQ ?_
   have kX:=vV.dM [13,13,13,13,13,13,13];rw [Oz hX hyb.symm oz (by omega) (by omega) (by omega)];exact ⟨rfl,Wd.dw (X':=X) (z':=z) (Ls:=[.blk tH #[iV BR.1.role,iV BR.1.ep,iV BR.1.fr,iV BR.1.tg,iV BR.1.rd,.slice mX BR.1.evs.length c31] 42,.bG 6 mX BR.1.evs.length ((BR.1.evs).flatMap Ev.cells),.blk xX #[iV y.b.role,iV y.b.ep,iV y.b.fr,iV y.b.tg,iV y.b.rd,.slice y.A y.b.evs.length y.c] 42,.blk b10 #[iV ((x.l.q:Nat):Int)] 3,.blk b7 (LX.row x) 169,.blk b4 #[pV kn 0] 122,.blk b1 #[pV kw 0] 111]) (fA:=R.fA) (fc:=R.fc) (fx:=R.fx) (sA:=R.sA) (sc:=R.sc) (tA:=R.tA) (tc:=R.tc) hkn bR hrr G hn kX NG.more (fun u hu=> .inl hu) (aQ hX).symm G.fly.symm mH⟩
  iterate 8 refine zQ ?_
  have oM:=qJ.dM [11,11,11,11,11,11,11];rw [Z6 hX hyb.symm (by omega)];exact ⟨rfl,Wd.dw (X':=X) (z':=z) (Ls:=[.blk xX #[iV y.b.role,iV y.b.ep,iV y.b.fr,iV y.b.tg,iV y.b.rd,.slice y.A y.b.evs.length y.c] 42,.blk b10 #[iV ((x.l.q:Nat):Int)] 3,.blk b7 (LX.row x) 169,.blk b4 #[pV kn 0] 122,.blk b1 #[pV kw 0] 111]) (fA:=R.fA) (fc:=R.fc) (fx:=R.fx) (sA:=R.sA) (sc:=R.sc) (tA:=R.tA) (tc:=R.tc) hkn bR hrr G hn oM NG.more (fun u hu=> .inl hu) (aQ hX).symm G.fly.symm mH⟩
 iterate 14 refine zQ ?_
 have tV:=qJ.dM [11,11,11,11,11,11,11];rw [Z6 hX hyb.symm (by omega)];exact ⟨rfl,Wd.dw (X':=X) (z':=z) (Ls:=[.blk xX #[iV y.b.role,iV y.b.ep,iV y.b.fr,iV y.b.tg,iV y.b.rd,.slice y.A y.b.evs.length y.c] 42,.blk b10 #[iV ((x.l.q:Nat):Int)] 3,.blk b7 (LX.row x) 169,.blk b4 #[pV kn 0] 122,.blk b1 #[pV kw 0] 111]) (fA:=R.fA) (fc:=R.fc) (fx:=R.fx) (sA:=R.sA) (sc:=R.sc) (tA:=R.tA) (tc:=R.tc) hkn bR hrr G hn tV NG.more (fun u hu=> .inl hu) (aQ hX).symm G.fly.symm mH⟩
theorem aaf {P:Program} {t:TypeId} {xo yo:Operand} {w:World} {a b c:Nat} (h:c=a % b) (hb:b≠0):(do eqGuard .rem t xo yo (iV ((a:Nat):Int)) (iV ((b:Nat):Int));binOp .rem t (iV ((a:Nat):Int)) (iV ((b:Nat):Int)):Sem Value).run P w= .ok (iV ((c:Nat):Int)) w:=by
 subst h;have h1:((a:Int)).tmod (b:Int)=((a % b:Nat):Int):=by rw [Int.tmod_eq_emod_of_nonneg (Int.natCast_nonneg a)];rfl
 have h2: ¬ ((b:Int)=0):=by omega
 simp [binOp,Op.intDiv,h2,h1,eqGuard_rem];exact fun h=>absurd h hb
theorem yJ {m:Cl} {n q:Nat} {X:Nd} {b:bO} (hX:m.av n=X) (hq:q=X.turn % 4) (hb:X.bs q=b):m.Xg n={ (m.put n { X with turn:=X.turn+1 }) with fly:=m.fly++kU n q b (X.sure q) }:=by
 subst hX;subst hq;subst hb;rfl
theorem dz.turn {K:CK} {L:List Fact} {n t:Nat} {X:Nd} {z:NX} (h:dz K L n X z):dz K L n { X with turn:=t } z:=⟨h.MG,h.Ox,h.vO,h.Xm,h.Xn,h.zN⟩
theorem aqj {fx:List LX} {x y:LX} {P:LX→Prop} (hx:P x) (hy:P y): ∀ u∈fx++[x,y],u∈fx∨P u:=fun u hu=>(List.mem_append.1 hu).elim .inl fun h=>by
 rcases List.mem_cons.1 h with h | h
 ·subst h;exact .inr hx
 rw [List.mem_singleton] at h;subst h;exact .inr hy
theorem TI {K:CK} {B n kn kw:Nat} {w0 w:World} {fs:List Fact} {m:Cl} {H:List LX} (hn:n<5) (hkn:K.nb n=kn) (bR:K.wb=kw) (hu:Uk B w0) (hB1:m.fly.length≤1000000000) (hB2:m.aH.length≤1000000000000) (HW:Wd K B w0 w fs m H) (htn:(m.av n).turn≤1000000000000) (hv: ∀ q,q<4→au ((m.av n).bs q)=0):
    Calls Tryz.prog 100 #[pV kw 0,pV kn 0] w (fun e w'=>e= .returned (.tuple #[])∧Wd K B w0 w' fs (m.Xg n) H):=by
 obtain ⟨R,G,S0⟩:=HW.open hn;have hfl:R.fx.length=m.fly.length:=by rw [←G.fly,List.length_map]
 have NG:=G.lC n hn;obtain ⟨X,hX⟩: ∃ X,m.av n=X:=⟨_,rfl⟩;obtain ⟨z,hz⟩: ∃ z,R.nx n=z:=⟨_,rfl⟩;rw [hX,hz] at S0 NG;have hL: ∀ f∈R.L,f∈eZ K R m fs n:=fun f h=>List.mem_append_right _ (List.mem_append_right _ h)
 obtain ⟨rr,hrr⟩: ∃ r,eZ K R m fs n=r:=⟨_,rfl⟩;rw [hrr] at S0 hL;have S:St B w0 w ((.blk kn (aU n X.up (.slice z.tA X.data.length z.tc) X.syn (.slice (aD z.bb 0) 4 4) X.hints X.sure (.slice z.iA z.ix.length z.ic) (z.pv) X.turn) 129)::(.own 42 6 (.slice (aD z.bb 0) 4 4) 4 ((z.bx).flatMap BX.cells))::(.off 169 23 z.iA z.ix.length z.ic ((z.ix).flatMap LX.cells))::(.blk kw (bL (.slice R.nA 5 R.nc) m.off (.slice R.fA R.fx.length R.fc) m.shown (.slice R.sA m.aH.length R.sc) (.slice R.tA m.aM.length R.tc) m.calls) 121)::(.own 169 23 (.slice R.fA R.fx.length R.fc) R.fx.length ((R.fx).flatMap LX.cells))::(.own 85 14 (.slice R.sA m.aH.length R.sc) m.aH.length ((m.aH).flatMap eT.cells))::(.own 81 7 (.slice R.tA m.aM.length R.tc) m.aM.length ((m.aM).flatMap fK.cells))::rr):=by subst hkn;subst bR;exact S0
 clear S0 HW;have hlen:=(S.own 1 rfl).1;rw [gL (sz:=6) (fun _=>rfl)] at hlen;rw [hX] at hv htn;obtain ⟨q,hqt⟩: ∃ q,q=X.turn % 4:=⟨_,rfl⟩;have hq:q<4:=by omega
 obtain ⟨y,hy,hyb,qZ⟩:=NG.at_ hq;have Iu:=uZ (hyb▸hv _ hq);refine fE 89 Tryz.func100 ?_;refine cw [0,1] ?_;iterate 6 refine zQ ?_
 refine vv (v:=iV ((q:Nat):Int)) (ah rfl rfl rfl (aaf hqt (by decide))) ?_;iterate 9 refine zQ ?_
 refine vv (v:=iV ((X.turn+1:Nat):Int)) jv ?_;iterate 2 refine zQ ?_
 refine iU (row':=aU n X.up (.slice z.tA X.data.length z.tc) X.syn (.slice (aD z.bb 0) 4 4) X.hints X.sure (.slice z.iA z.ix.length z.ic) (z.pv) (X.turn+1)) 0 S fM ?_;intro w1 S2;iterate 9 refine zQ ?_
 refine vv (gM q) ?_;refine vv (aj rfl rfl (aG (cs:=BX.cells y) Tryz.underlying42 rfl aC rfl (Rd.uN (St.ord 1 S2 rfl) (fun _ _ h=>bS (enc:=BX.cells) (sz:=6) (fun _=>rfl) hy h)))) ?_;refine eU S2 dK ?_;intro b3 w4 S5;refine sa 0 S5 aC ?_;intro w6 S7;iterate 7 refine zQ ?_
 by_cases h8:y.b.role=2
 ·iterate 9 refine zQ ?_
  have S9:=S7.dM [5,5];have jE:=S9.drew;refine aN 13 jE [1,0] ?_;iterate 10 refine aF ?_
  refine ak (v:=iV (y.b.ep+1)) 10 rfl (jE.oh [1,0]) (fun _ _=>jv) ?_;refine ak (v:= .agg #[iV 2,iV ((n:Nat):Int),iV y.b.tg,iV ((q:Nat):Int),iV (y.b.ep+1),iV 0,iV 0,iV 0,iV 0,iV 0,iV 0,iV 0,iV 0,.slice none 0 0,.bool false,iV 0,iV 0,iV 0,iV 0,iV 0,iV 0,iV 0,iV 0]) 11 rfl (jE.oh [1,0]) (fun _ _=>gZ) ?_;refine aS 12 ?_;refine iH 12 rfl wm (fO (x:=⟨zM n q y.b,none,0⟩) jE (by omega)) ?_;rintro _ JV ⟨rfl,A23,c24,awc,awd,qM⟩;refine ⟨_,rfl,?_⟩;iterate 2 refine aF ?_
  iterate 36 refine zQ ?_
  have sj:=qM.aR [2];have tF:=sj.dM [6,6,3,3,6,6,6];have hdl:kU n q y.b (X.sure q)=[zM n q y.b]:=by
   unfold kU
   (rw [if_pos (by first | omega | exact ⟨by omega,by omega,by assumption⟩),if_neg (by first | omega | (rintro ⟨h1,h2,h3⟩;first | omega | simp_all)),if_neg (by first | omega | (rintro ⟨h1,h2,h3⟩;first | omega | simp_all))])<;>rfl
  rw [yJ hX hqt hyb.symm];have hfx:=awd;exact ⟨rfl,Wd.dw (X':={ X with turn:=X.turn+1 }) (z':=z) (Ls:=[]) (fA:=A23) (fc:=c24) (fx:=awc) (sA:=R.sA) (sc:=R.sc) (tA:=R.tA) (tc:=R.tc) hkn bR hrr G hn tF (dz.turn NG.more) (by rw [hfx];exact nu (gY rfl)) rfl (by rw [hfx,hdl,List.map_append,G.fly];rfl) (fun u h=> .inl h)⟩
 iterate 4 refine zQ ?_
 by_cases h31:y.b.role=3
 ·iterate 5 refine zQ ?_
  have pE:=S7.dM [5,5];have qY:=pE.drew;refine aN 13 qY [1,0] ?_;iterate 10 refine aF ?_
  refine ak (v:=iV (y.b.ep+1)) 10 rfl (qY.oh [1,0]) (fun _ _=>jv) ?_;refine ak (v:= .agg #[iV 2,iV ((n:Nat):Int),iV y.b.tg,iV ((q:Nat):Int),iV (y.b.ep+1),iV 0,iV 0,iV 0,iV 0,iV 0,iV 0,iV 0,iV 0,.slice none 0 0,.bool false,iV 0,iV 0,iV 0,iV 0,iV 0,iV 0,iV 0,iV 0]) 11 rfl (qY.oh [1,0]) (fun _ _=>gZ) ?_;refine aS 12 ?_;refine iH 12 rfl wm (fO (x:=⟨zM n q y.b,none,0⟩) qY (by omega)) ?_;rintro _ Qw ⟨rfl,A46,c47,aDl,anM,sw⟩;refine ⟨_,rfl,?_⟩;iterate 2 refine aF ?_
  iterate 17 refine zQ ?_
  refine vv (v:= .agg #[iV 5,iV ((n:Nat):Int),iV (-2),iV ((q:Nat):Int),iV 0,iV 0,iV (-1),iV 0,iV 0,iV 0,iV 0,iV 0,iV 0,.slice none 0 0,.bool false,iV 0,iV 0,iV 0,iV 0,iV 0,iV 0,iV 0,iV 0]) gZ ?_;refine dO wm (fO (x:=⟨Xf n q,none,0⟩) sw (by simp only [anM,List.length_append,List.length_cons,List.length_nil];omega)) ?_;rintro _ w56 ⟨rfl,A52,c53,anN,awe,sF⟩;refine ⟨_,rfl,?_⟩;iterate 26 refine zQ ?_
  have yU:=sF.aR [2];have uQ:=yU.dM [6,6,3,3,6,6,6];have hdl:kU n q y.b (X.sure q)=[zM n q y.b,Xf n q]:=by
   unfold kU
   (rw [if_pos (by first | omega | exact ⟨by omega,by omega,by assumption⟩),if_pos (by first | omega | exact ⟨by omega,by omega,by assumption⟩),if_neg (by first | omega | (rintro ⟨h1,h2,h3⟩;first | omega | simp_all))])<;>rfl
  rw [yJ hX hqt hyb.symm];have hfx:anN=R.fx++[⟨zM n q y.b,none,0⟩,⟨Xf n q,none,0⟩]:=by rw [awe,anM];simp
  exact ⟨rfl,Wd.dw (X':={ X with turn:=X.turn+1 }) (z':=z) (Ls:=[]) (fA:=A52) (fc:=c53) (fx:=anN) (sA:=R.sA) (sc:=R.sc) (tA:=R.tA) (tc:=R.tc) hkn bR hrr G hn uQ (dz.turn NG.more) (by rw [hfx];exact aqj (gY rfl) (gY rfl)) rfl (by rw [hfx,hdl,List.map_append,G.fly];rfl) (fun u h=> .inl h)⟩
 iterate 22 refine zQ ?_
 by_cases h60:y.b.role=1
 ·iterate 4 refine zQ ?_
  by_cases h61:1<y.b.ep
  ·iterate 7 refine zQ ?_
   refine vg (v:=pV kn (13+q*1)) (bP rfl rfl rfl (eu q Tryz.underlying126 EM rfl hq)) ?_;refine vg (aj rfl rfl (aA Tryz.underlying4 rfl (St.cl 1 S7 rfl (afr hq)))) ?_
   cases anq:(X.sure q)
   ·iterate 5 refine zQ ?_
    have uO:=S7.dM [5,5];have S64:=uO.drew;refine aN 15 S64 [1,0] ?_;iterate 8 refine aF ?_
    refine ak (v:=iV (y.b.ep-1)) 8 rfl (S64.oh [1,0]) (fun _ _=>ysu) ?_;iterate 4 refine aF ?_
    refine ak (v:= .agg #[iV 5,iV ((n:Nat):Int),iV (-2),iV ((q:Nat):Int),iV (y.b.ep-1),iV 0,iV ((n:Nat):Int),iV 0,iV 0,iV 0,iV 0,iV 0,iV 0,.slice none 0 0,.bool false,iV 0,iV 0,iV 0,iV 0,iV 0,iV 0,iV 0,iV 0]) 13 rfl (S64.oh [1,0]) (fun _ _=>gZ) ?_;refine aS 14 ?_;refine iH 14 rfl wm (fO (x:=⟨Rn n q y.b,none,0⟩) S64 (by omega)) ?_;rintro _ w83 ⟨rfl,A79,c80,awf,awg,CJ⟩;refine ⟨_,rfl,?_⟩;iterate 2 refine aF ?_
    refine bN (l':=[]) trivial (aY (rs:=[]) (vs:=[]) rfl trivial ?_);have Bl:=CJ.aR [2];have uh:=Bl.dM [6,6,3,3,6,6,6];have hdl:kU n q y.b (X.sure q)=[Rn n q y.b]:=by
     unfold kU
     (rw [if_neg (by first | omega | (rintro ⟨h1,h2,h3⟩;first | omega | simp_all)),if_neg (by first | omega | (rintro ⟨h1,h2,h3⟩;first | omega | simp_all)),if_pos (by first | omega | exact ⟨by omega,by omega,by assumption⟩)])<;>rfl
    rw [yJ hX hqt hyb.symm];have hfx:=awg;exact ⟨rfl,Wd.dw (X':={ X with turn:=X.turn+1 }) (z':=z) (Ls:=[]) (fA:=A79) (fc:=c80) (fx:=awf) (sA:=R.sA) (sc:=R.sc) (tA:=R.tA) (tc:=R.tc) hkn bR hrr G hn uh (dz.turn NG.more) (by rw [hfx];exact nu (gY rfl)) rfl (by rw [hfx,hdl,List.map_append,G.fly];rfl) (fun u h=> .inl h)⟩
   iterate 7 refine zQ ?_
   have Du:=S7.aR [0];have hdl:kU n q y.b (X.sure q)=[]:=by
    unfold kU
    (rw [if_neg (by first | omega | (rintro ⟨h1,h2,h3⟩;first | omega | simp_all)),if_neg (by first | omega | (rintro ⟨h1,h2,h3⟩;first | omega | simp_all)),if_neg (by first | omega | (rintro ⟨h1,h2,h3⟩;first | omega | simp_all))])<;>rfl
   rw [yJ hX hqt hyb.symm];exact ⟨rfl,Wd.dw (X':={ X with turn:=X.turn+1 }) (z':=z) (Ls:=[]) (fA:=R.fA) (fc:=R.fc) (fx:=R.fx) (sA:=R.sA) (sc:=R.sc) (tA:=R.tA) (tc:=R.tc) hkn bR hrr G hn Du (dz.turn NG.more) (fun u hu=> .inl hu) rfl (by rw [hdl,G.fly,List.append_nil]) (fun u h=> .inl h)⟩
  iterate 16 refine zQ ?_
  have IV:=S7.aR [0];have hdl:kU n q y.b (X.sure q)=[]:=by
   unfold kU
   (rw [if_neg (by first | omega | (rintro ⟨h1,h2,h3⟩;first | omega | simp_all)),if_neg (by first | omega | (rintro ⟨h1,h2,h3⟩;first | omega | simp_all)),if_neg (by first | omega | (rintro ⟨h1,h2,h3⟩;first | omega | simp_all))])<;>rfl
  rw [yJ hX hqt hyb.symm];exact ⟨rfl,Wd.dw (X':={ X with turn:=X.turn+1 }) (z':=z) (Ls:=[]) (fA:=R.fA) (fc:=R.fc) (fx:=R.fx) (sA:=R.sA) (sc:=R.sc) (tA:=R.tA) (tc:=R.tc) hkn bR hrr G hn IV (dz.turn NG.more) (fun u hu=> .inl hu) rfl (by rw [hdl,G.fly,List.append_nil]) (fun u h=> .inl h)⟩
 iterate 20 refine zQ ?_
 have FQ:=S7.aR [0];have hdl:kU n q y.b (X.sure q)=[]:=by
  unfold kU
  (rw [if_neg (by first | omega | (rintro ⟨h1,h2,h3⟩;first | omega | simp_all)),if_neg (by first | omega | (rintro ⟨h1,h2,h3⟩;first | omega | simp_all)),if_neg (by first | omega | (rintro ⟨h1,h2,h3⟩;first | omega | simp_all))])<;>rfl
 rw [yJ hX hqt hyb.symm];exact ⟨rfl,Wd.dw (X':={ X with turn:=X.turn+1 }) (z':=z) (Ls:=[]) (fA:=R.fA) (fc:=R.fc) (fx:=R.fx) (sA:=R.sA) (sc:=R.sc) (tA:=R.tA) (tc:=R.tc) hkn bR hrr G hn FQ (dz.turn NG.more) (fun u hu=> .inl hu) rfl (by rw [hdl,G.fly,List.append_nil]) (fun u h=> .inl h)⟩
theorem mh (kw:Nat) (w:World):
    Calls Tryz.prog 99 #[pV kw 0] w (fun e w'=> ∃ b,e= .returned (.map (some b))∧St w.heap.size w w' [.loc b (iY Tryz.prog 3 (fun y=>if y=6 then some (.func (.func 125) #[pV kw 0] #[]) else (fun y=>if y=4 then some (.func (.func 124) #[pV kw 0] #[]) else (fun y=>if y=3 then some (.func (.func 123) #[pV kw 0] #[]) else (fun y=>if y=2 then some (.func (.func 122) #[pV kw 0] #[]) else (fun y=>if y=0 then some (.func (.func 121) #[pV kw 0] #[]) else (fun _=>none) y) y) y) y) y) 5)]):=by
 have S:=St.start w;refine fE 15 Tryz.func99 ?_;refine cw [0] ?_;iterate 7 refine zQ ?_
 refine Gb (k:=3) S (wn rfl) rfl rfl rfl ?_;intro b1 w2 S3;refine zQ ?_;refine vv FM ?_;refine jL (e:=207) 0 S3 (wn rfl) rfl rfl rfl rfl rfl rfl Tryz.underlying3 Tryz.underlying208 (by decide) (by decide) ?_;intro w4 S5;refine zQ ?_;refine vv FM ?_;refine jL (e:=207) 0 S5 (wn rfl) rfl rfl rfl rfl rfl rfl Tryz.underlying3 Tryz.underlying208 (by decide) (by decide) ?_;intro w6 S7;refine zQ ?_;refine vv FM ?_;refine jL (e:=207) 0 S7 (wn rfl) rfl rfl rfl rfl rfl rfl Tryz.underlying3 Tryz.underlying208 (by decide) (by decide) ?_;intro w8 S9;refine zQ ?_;refine vv FM ?_;refine jL (e:=207) 0 S9 (wn rfl) rfl rfl rfl rfl rfl rfl Tryz.underlying3 Tryz.underlying208 (by decide) (by decide) ?_;intro Ma jQ;refine zQ ?_;refine vv FM ?_;refine jL (e:=207) 0 jQ (wn rfl) rfl rfl rfl rfl rfl rfl Tryz.underlying3 Tryz.underlying208 (by decide) (by decide) ?_;intro Qr qK;iterate 6 refine zQ ?_
 exact ⟨b1,rfl,qK⟩
theorem vU {l:List UInt8} {s:Int} (h:cu l s=true):QO l s=(l,(l.length:Int),0):=if_pos h
theorem mI {H:List LX} {P:LX→Prop}: ∀ u∈H,u∈H∨P u:=fun _ h=> .inl h
theorem Gt {kn kw:Nat} {L:List Fact} {p:gX} {v:Value} (h:nU kn kw L (some p) v): ∃ f xs ys,v= .func f xs ys:=by
 match p,h with
 | .serve ..,⟨_,_,_,_,_,_,_,_,_,h,_⟩=>exact ⟨_,_,_,h⟩
 | .begun ..,⟨_,_,_,_,_,h,_⟩=>exact ⟨_,_,_,h⟩
 | .got ..,⟨_,_,_,_,_,_,_,h,_⟩=>exact ⟨_,_,_,h⟩
 | .kN ..,⟨_,_,_,_,_,_,_,h,_⟩=>exact ⟨_,_,_,h⟩
 | .forget ..,⟨_,_,_,_,h,_⟩=>exact ⟨_,_,_,h⟩
theorem dz.EH {K:CK} {L L':List Fact} {n q c:Nat} {X:Nd} {z:NX} {A:Option Addr} {Y:BX} (h:dz K L n X z) (hq:q<4) (hsub: ∀ f∈L,f∈L') (hr: .bG 1 A X.data.length (byteCells X.data)∈L') (hY:zi L Y):
  dz K L' n (X.uo.dS q Y.b) { z with tA:=A,tc:=c,pv:= .nilFunc,bx:=z.bx.set q Y }:=
 ⟨Fu h.MG hq,Bt (fun u hu=>(h.Ox u hu).mono hsub) (hY.mono hsub),Ro.bG hr,h.Xm,fun u hu=>(h.Xn u hu).mono hsub,rfl⟩
theorem dz.awh {K:CK} {L N:List Fact} {n c:Nat} {X:Nd} {z:NX} {A:Option Addr} {x:LX} {r:List LX} {v:Value} (h:dz K L n X z) (hz:z.ix=x::r) (hv:z.pv=v):dz K (L++N) n (X.box (r.map LX.l)) { z with iA:=A,ic:=c,ix:=r,pv:=v }:=
 ⟨h.MG,fun u hu=>(h.Ox u hu).mono fun _ hf=>List.mem_append_left _ hf,h.vO.mono fun _ hf=>List.mem_append_left _ hf,rfl,fun u hu=>(h.Xn u (by rw [hz];exact List.mem_cons_of_mem _ hu)).mono fun _ hf=>List.mem_append_left _ hf,nU.mono (by have:=h.zN;rw [hv] at this;exact this) fun _ hf=>List.mem_append_left _ hf⟩
theorem TJ {K:CK} {B n kn kw:Nat} {w0 w:World} {fs:List Fact} {m:Cl} {H:List LX} (hn:n<5) (hkn:K.nb n=kn) (bR:K.wb=kw) (hu:Uk B w0) (hB1:m.fly.length+(m.av n).inbox.length≤900000000) (hB2:m.aH.length+(m.av n).inbox.length≤900000000000) (htn:(m.av n).turn≤1000000000000) (HW:Wd K B w0 w fs m H) (hv: ∀ q,q<4→au ((m.av n).bs q)=0) (hok: ∀ l∈(m.av n).inbox,l.ok) (hpd: ∀ p,(m.av n).pend=some p→p.fit∧cu (m.av n).data (m.av n).syn=true):
    Calls Tryz.prog 70 #[pV kw 0,pV kn 0] w (fun e w'=>e= .returned (.tuple #[])∧Wd K B w0 w' fs (m.step n) H):=by
 obtain ⟨R,G,S0⟩:=HW.open hn;have hfl:R.fx.length=m.fly.length:=by rw [←G.fly,List.length_map]
 have NG:=G.lC n hn;obtain ⟨X,hX⟩: ∃ X,m.av n=X:=⟨_,rfl⟩;obtain ⟨z,hz⟩: ∃ z,R.nx n=z:=⟨_,rfl⟩;rw [hX,hz] at S0 NG;have hL: ∀ f∈R.L,f∈eZ K R m fs n:=fun f h=>List.mem_append_right _ (List.mem_append_right _ h)
 obtain ⟨rr,hrr⟩: ∃ r,eZ K R m fs n=r:=⟨_,rfl⟩;rw [hrr] at S0 hL;obtain ⟨pv0,Fv⟩: ∃ v,z.pv=v:=⟨_,rfl⟩;have S:St B w0 w ((.blk kn (aU n X.up (.slice z.tA X.data.length z.tc) X.syn (.slice (aD z.bb 0) 4 4) X.hints X.sure (.slice z.iA z.ix.length z.ic) (pv0) X.turn) 129)::(.own 42 6 (.slice (aD z.bb 0) 4 4) 4 ((z.bx).flatMap BX.cells))::(.off 169 23 z.iA z.ix.length z.ic ((z.ix).flatMap LX.cells))::(.blk kw (bL (.slice R.nA 5 R.nc) m.off (.slice R.fA R.fx.length R.fc) m.shown (.slice R.sA m.aH.length R.sc) (.slice R.tA m.aM.length R.tc) m.calls) 121)::(.own 169 23 (.slice R.fA R.fx.length R.fc) R.fx.length ((R.fx).flatMap LX.cells))::(.own 85 14 (.slice R.sA m.aH.length R.sc) m.aH.length ((m.aH).flatMap eT.cells))::(.own 81 7 (.slice R.tA m.aM.length R.tc) m.aM.length ((m.aM).flatMap fK.cells))::rr):=by rw [←Fv];subst hkn;subst bR;exact S0
 clear S0;have hlen:=(S.own 1 rfl).1;rw [gL (sz:=6) (fun _=>rfl)] at hlen;refine fE 79 Tryz.func70 ?_;refine cw [0,1] ?_;iterate 7 refine zQ ?_
 cases hb1:(X.up)
 ·iterate 7 refine zQ ?_
  rw [Ko (by rw [hX];assumption)];exact ⟨rfl,HW⟩
 iterate 8 refine zQ ?_
 have hpn:=NG.zN;change nU (K.nb n) K.wb _ _ _ at hpn;rw [hkn,bR,Fv] at hpn
 rcases hp:X.pend with _ | p
 ·rw [hp] at hpn;have hpf:pv0= .nilFunc:=hpn;subst hpf;iterate 5 refine zQ ?_
  refine vv (v:= .bool false) (ah rfl rfl rfl Gp) ?_;iterate 7 refine zQ ?_
  refine fH (X:=Cl) (fun xv=>[(0,pV kw 0),(1,pV kn 0)]) (fun xv wr=>(Wd K B w0 wr fs xv H)∧(m.more n=xv.more n)∧(xv.fly.length+(xv.av n).inbox.length≤900000000)∧(xv.aH.length+(xv.av n).inbox.length≤900000000000)∧(∀ q,q<4→au ((xv.av n).bs q)=0)∧(∀ l∈(xv.av n).inbox,l.ok)∧((xv.av n).turn=(m.av n).turn)∧St B w0 wr []) (fun xv=>(xv.av n).inbox.length) (m) ?_ ?_ ?_
  ·exact ⟨HW,rfl,hB1,hB2,hv,hok,rfl,Wd.uS (gs:=[]) HW⟩
  ·exact ⟨rfl,rfl,trivial⟩
  rintro mm w2 ⟨hi4,hi5,OJ,KA,yg,hi9,l8,S3⟩
  try dsimp only at hi4 hi5 OJ KA yg hi9 l8 S3
  refine bq (l':=[(0,pV kw 0),(1,pV kn 0)]) ⟨rfl,rfl,trivial⟩ ?_;obtain ⟨R2,G2,S0⟩:=hi4.open hn;have NG2:=G2.lC n hn;obtain ⟨X2,hX2⟩: ∃ X,mm.av n=X:=⟨_,rfl⟩;obtain ⟨z2,hz2⟩: ∃ z,R2.nx n=z:=⟨_,rfl⟩;rw [hX2,hz2] at S0 NG2;have hL2: ∀ f∈R2.L,f∈eZ K R2 mm fs n:=fun f h=>List.mem_append_right _ (List.mem_append_right _ h)
  obtain ⟨rr2,anO⟩: ∃ r,eZ K R2 mm fs n=r:=⟨_,rfl⟩;rw [anO] at S0 hL2;obtain ⟨pv2,hpv2⟩: ∃ v,z2.pv=v:=⟨_,rfl⟩;obtain ⟨iA2,awi⟩: ∃ v,z2.iA=v:=⟨_,rfl⟩;obtain ⟨ixv,acL⟩: ∃ v,z2.ix=v:=⟨_,rfl⟩;have mM:=NG2.Xm;have Rw:=NG2.zN;change nU (K.nb n) K.wb _ _ _ at Rw;rw [hkn,bR,hpv2] at Rw;rw [acL] at mM;have S1:St B w0 w2 ((.blk kn (aU n X2.up (.slice z2.tA X2.data.length z2.tc) X2.syn (.slice (aD z2.bb 0) 4 4) X2.hints X2.sure (.slice iA2 ixv.length z2.ic) (pv2) X2.turn) 129)::(.own 42 6 (.slice (aD z2.bb 0) 4 4) 4 ((z2.bx).flatMap BX.cells))::(.off 169 23 iA2 ixv.length z2.ic ((ixv).flatMap LX.cells))::(.blk kw (bL (.slice R2.nA 5 R2.nc) mm.off (.slice R2.fA R2.fx.length R2.fc) mm.shown (.slice R2.sA mm.aH.length R2.sc) (.slice R2.tA mm.aM.length R2.tc) mm.calls) 121)::(.own 169 23 (.slice R2.fA R2.fx.length R2.fc) R2.fx.length ((R2.fx).flatMap LX.cells))::(.own 85 14 (.slice R2.sA mm.aH.length R2.sc) mm.aH.length ((mm.aH).flatMap eT.cells))::(.own 81 7 (.slice R2.tA mm.aM.length R2.tc) mm.aM.length ((mm.aM).flatMap fK.cells))::rr2):=by rw [←hpv2,←awi,←acL];subst hkn;subst bR;exact S0
  clear S0;rw [hX2] at OJ KA yg hi9 l8
  rcases hp2:X2.pend with _ | p2
  ·rw [hp2] at Rw;have aiv:pv2= .nilFunc:=Rw;subst aiv;iterate 8 refine zQ ?_
   by_cases h11:0< ((ixv.length:Nat):Int)
   ·iterate 6 refine zQ ?_
    refine vg (v:= .bool true) (ah rfl rfl rfl OC) ?_;iterate 8 refine zQ ?_
    obtain ⟨x,mZ,hxx⟩:=List.exists_cons_of_length_pos (by omega:0<ixv.length);subst hxx;iterate 5 refine zQ ?_
    obtain ⟨rb,ro,hra,_,hrc⟩:=(St.apl 2 S1 rfl).2 (by simp);subst hra;refine vv (gM 0) ?_;refine vv (v:= .agg (LX.row x)) (aj rfl rfl (aG (cs:=LX.cells x) Tryz.underlying169 rfl vD rfl (fun j u hu=>by rw [Nat.add_assoc];exact hrc (0*23+j) u (bS (enc:=LX.cells) (sz:=23) (k:=0) (fun _=>rfl) rfl hu)))) ?_;refine eU S1 YG ?_;intro b12 CG jH;refine stA 0 jH vD ?_ (h1:=Bp _);intro FR jR;iterate 9 refine zQ ?_
    refine vv (v:= .slice (if z2.ic=1 then (some ⟨rb,ro,none⟩:Option Addr) else (some ⟨rb,ro,none⟩:Option Addr).map (·.add (1*23))) ((x::mZ).length-1) (z2.ic-1)) (jq rfl rfl (iI rfl) mD mD (afu 1 Tryz.underlying115 vD (by simp) _)) ?_;iterate 2 refine zQ ?_
    refine iU (row':=aU n X2.up (.slice z2.tA X2.data.length z2.tc) X2.syn (.slice (aD z2.bb 0) 4 4) X2.hints X2.sure (.slice (if z2.ic=1 then (some ⟨rb,ro,none⟩:Option Addr) else (some ⟨rb,ro,none⟩:Option Addr).map (·.add (1*23))) ((x::mZ).length-1) (z2.ic-1)) (.nilFunc) X2.turn) 1 jR zG ?_;intro JR iD;iterate 2 refine zQ ?_
    have lg:=iD.dM [7,7,7,7,7,7,7];have kr:=lg.ajZ 2 1 rfl (by simp);obtain ⟨hq,hxe,hkd⟩:=hi9 x.l (by rw [←mM];exact List.mem_cons_self ..);have Rx:=Wd.dw (fs:=[.blk b12 (LX.row x) 169]++fs) (X':=(X2.box (mZ.map LX.l))) (z':={ z2 with iA:=(if z2.ic=1 then (some ⟨rb,ro,none⟩:Option Addr) else (some ⟨rb,ro,none⟩:Option Addr).map (·.add (1*23))),ic:=z2.ic-1,ix:=mZ,pv:= .nilFunc }) (m':=mm.put n (X2.box (mZ.map LX.l))) (H':=x::H) (Ls:=[]) (fA:=R2.fA) (fc:=R2.fc) (fx:=R2.fx) (sA:=R2.sA) (sc:=R2.sc) (tA:=R2.tA) (tc:=R2.tc) (rr:= .blk b12 (LX.row x) 169::rr2) hkn bR (by rw [←anO];rfl) G2 hn kr (NG2.awh acL hpv2) (fun u hu=> .inl hu) rfl G2.fly.symm (fun u hu=>(List.mem_cons.1 hu).elim (fun e=> .inr (e▸(by rw [List.append_nil];exact NG2.Xn x (by rw [acL];exact List.mem_cons_self ..)))) .inl);subst hX2;have ig:=Wd.uS (gs:=[.blk b12 (LX.row x) 169]) Rx;have heh:=wO (m:=mm.put n ((mm.av n).box (mZ.map LX.l))) (n:=n) (l:=x.l) hq
    rcases hkd with hkd | hkd | hkd | hkd | hkd
    ·have mE:=ig.drew;refine aN 8 mE [] ?_;iterate 5 refine aF ?_
     refine aS 1 ?_;refine iH 1 rfl VH (mh kw _) ?_;rintro _ V4 ⟨b29,rfl,T32⟩;refine ⟨_,rfl,?_⟩;have anP:=(Wd.drew Rx).ext T32 rfl;have mF:=Wd.uS (gs:=[.loc b29 (iY Tryz.prog 3 (fun y=>if y=6 then some (.func (.func 125) #[pV kw 0] #[]) else (fun y=>if y=4 then some (.func (.func 124) #[pV kw 0] #[]) else (fun y=>if y=3 then some (.func (.func 123) #[pV kw 0] #[]) else (fun y=>if y=2 then some (.func (.func 122) #[pV kw 0] #[]) else (fun y=>if y=0 then some (.func (.func 121) #[pV kw 0] #[]) else (fun _=>none) y) y) y) y) y) 5),.blk b12 (LX.row x) 169]) anP;refine aF ?_;refine aS 4 ?_;refine dW (i:=4) rfl rfl (v:= .func (.func 121) #[pV kw 0] #[]) (wn rfl) rfl rfl (dZ 0 mF rfl rfl rfl rfl Tryz.underlying3 Tryz.underlying208 (Tryz.zeroValue207 _) (by rw [hkd];decide) (by rw [hkd];rfl)) ?_;refine aF ?_;refine aS 7 ?_;refine gI 7 rfl aoZ (P9 (K:=K) (m:=mm.put n ((mm.av n).box (mZ.map LX.l))) (x:=x) hn hkn bR hu (by show mm.fly.length≤_;omega) (by show mm.aH.length≤_;omega) anP hq (by rw [bM];exact yg)) ?_;rintro _ WX ⟨rfl,anQ⟩;refine ⟨_,rfl,?_⟩;have nL:=Wd.uS (gs:=[.loc b29 (iY Tryz.prog 3 (fun y=>if y=6 then some (.func (.func 125) #[pV kw 0] #[]) else (fun y=>if y=4 then some (.func (.func 124) #[pV kw 0] #[]) else (fun y=>if y=3 then some (.func (.func 123) #[pV kw 0] #[]) else (fun y=>if y=2 then some (.func (.func 122) #[pV kw 0] #[]) else (fun y=>if y=0 then some (.func (.func 121) #[pV kw 0] #[]) else (fun _=>none) y) y) y) y) y) 5),.blk b12 (LX.row x) 169]) anQ;have anR:=Wd.less (gs:=[.loc b29 (iY Tryz.prog 3 (fun y=>if y=6 then some (.func (.func 125) #[pV kw 0] #[]) else (fun y=>if y=4 then some (.func (.func 124) #[pV kw 0] #[]) else (fun y=>if y=3 then some (.func (.func 123) #[pV kw 0] #[]) else (fun y=>if y=2 then some (.func (.func 122) #[pV kw 0] #[]) else (fun y=>if y=0 then some (.func (.func 121) #[pV kw 0] #[]) else (fun _=>none) y) y) y) y) y) 5),.blk b12 (LX.row x) 169]) anQ;iterate 2 refine aF ?_
     refine zQ ?_;refine bY (((mm.put n ((mm.av n).box (mZ.map LX.l))).handle n x.l)) ?_ ⟨rfl,rfl,trivial⟩ (by (try dsimp only);rw [heh.mY,bM,←mM];simp [Nd.box]);exact ⟨(by (try dsimp only);rw [Cl.handle,if_pos hkd];exact anR),(hi5.trans (sQ hp2 mM.symm hq)),(by (try dsimp only);rw [heh.mY,bM];have:=heh.fly;rw [show ((mm.av n).box (mZ.map LX.l)).inbox.length=mZ.length from List.length_map ..];rw [←mM] at OJ;simp only [List.length_map,List.length_cons] at OJ;have e9:(mm.put n ((mm.av n).box (mZ.map LX.l))).fly=mm.fly:=rfl;rw [e9] at this;omega),(by (try dsimp only);rw [heh.mY,bM];have:=heh.aH;rw [show ((mm.av n).box (mZ.map LX.l)).inbox.length=mZ.length from List.length_map ..];rw [←mM] at KA;simp only [List.length_map,List.length_cons] at KA;have e9:(mm.put n ((mm.av n).box (mZ.map LX.l))).aH=mm.aH:=rfl;rw [e9] at this;omega),(heh.nY (by rw [bM];exact yg)),(by (try dsimp only);rw [heh.mY,bM];exact fun l hl=>hi9 l (by rw [←mM];exact List.mem_cons_of_mem _ hl)),(by (try dsimp only);rw [heh.Ou,bM];exact l8),(Wd.uS (gs:=[]) anR)⟩
    ·have oG:=ig.drew;refine aN 8 oG [] ?_;iterate 5 refine aF ?_
     refine aS 1 ?_;refine iH 1 rfl VH (mh kw _) ?_;rintro _ w45 ⟨b44,rfl,T47⟩;refine ⟨_,rfl,?_⟩;have anS:=(Wd.drew Rx).ext T47 rfl;have qj:=Wd.uS (gs:=[.loc b44 (iY Tryz.prog 3 (fun y=>if y=6 then some (.func (.func 125) #[pV kw 0] #[]) else (fun y=>if y=4 then some (.func (.func 124) #[pV kw 0] #[]) else (fun y=>if y=3 then some (.func (.func 123) #[pV kw 0] #[]) else (fun y=>if y=2 then some (.func (.func 122) #[pV kw 0] #[]) else (fun y=>if y=0 then some (.func (.func 121) #[pV kw 0] #[]) else (fun _=>none) y) y) y) y) y) 5),.blk b12 (LX.row x) 169]) anS;refine aF ?_;refine aS 4 ?_;refine dW (i:=4) rfl rfl (v:= .func (.func 122) #[pV kw 0] #[]) (wn rfl) rfl rfl (dZ 0 qj rfl rfl rfl rfl Tryz.underlying3 Tryz.underlying208 (Tryz.zeroValue207 _) (by rw [hkd];decide) (by rw [hkd];rfl)) ?_;refine aF ?_;refine aS 7 ?_;refine gI 7 rfl ao0 (Jf (K:=K) (m:=mm.put n ((mm.av n).box (mZ.map LX.l))) (x:=x) hn hkn bR hu (by show mm.fly.length≤_;omega) (by show mm.aH.length≤_;omega) anS hq (by rw [bM];exact yg)) ?_;rintro _ Qq ⟨rfl,anT⟩;refine ⟨_,rfl,?_⟩;have sw:=Wd.uS (gs:=[.loc b44 (iY Tryz.prog 3 (fun y=>if y=6 then some (.func (.func 125) #[pV kw 0] #[]) else (fun y=>if y=4 then some (.func (.func 124) #[pV kw 0] #[]) else (fun y=>if y=3 then some (.func (.func 123) #[pV kw 0] #[]) else (fun y=>if y=2 then some (.func (.func 122) #[pV kw 0] #[]) else (fun y=>if y=0 then some (.func (.func 121) #[pV kw 0] #[]) else (fun _=>none) y) y) y) y) y) 5),.blk b12 (LX.row x) 169]) anT;have anU:=Wd.less (gs:=[.loc b44 (iY Tryz.prog 3 (fun y=>if y=6 then some (.func (.func 125) #[pV kw 0] #[]) else (fun y=>if y=4 then some (.func (.func 124) #[pV kw 0] #[]) else (fun y=>if y=3 then some (.func (.func 123) #[pV kw 0] #[]) else (fun y=>if y=2 then some (.func (.func 122) #[pV kw 0] #[]) else (fun y=>if y=0 then some (.func (.func 121) #[pV kw 0] #[]) else (fun _=>none) y) y) y) y) y) 5),.blk b12 (LX.row x) 169]) anT;iterate 2 refine aF ?_
     refine zQ ?_;refine bY (((mm.put n ((mm.av n).box (mZ.map LX.l))).handle n x.l)) ?_ ⟨rfl,rfl,trivial⟩ (by (try dsimp only);rw [heh.mY,bM,←mM];simp [Nd.box]);exact ⟨(by (try dsimp only);rw [Cl.handle,if_neg (by omega),if_pos hkd];exact anU),(hi5.trans (sQ hp2 mM.symm hq)),(by (try dsimp only);rw [heh.mY,bM];have:=heh.fly;rw [show ((mm.av n).box (mZ.map LX.l)).inbox.length=mZ.length from List.length_map ..];rw [←mM] at OJ;simp only [List.length_map,List.length_cons] at OJ;have e9:(mm.put n ((mm.av n).box (mZ.map LX.l))).fly=mm.fly:=rfl;rw [e9] at this;omega),(by (try dsimp only);rw [heh.mY,bM];have:=heh.aH;rw [show ((mm.av n).box (mZ.map LX.l)).inbox.length=mZ.length from List.length_map ..];rw [←mM] at KA;simp only [List.length_map,List.length_cons] at KA;have e9:(mm.put n ((mm.av n).box (mZ.map LX.l))).aH=mm.aH:=rfl;rw [e9] at this;omega),(heh.nY (by rw [bM];exact yg)),(by (try dsimp only);rw [heh.mY,bM];exact fun l hl=>hi9 l (by rw [←mM];exact List.mem_cons_of_mem _ hl)),(by (try dsimp only);rw [heh.Ou,bM];exact l8),(Wd.uS (gs:=[]) anU)⟩
    ·have vG:=ig.drew;refine aN 8 vG [] ?_;iterate 5 refine aF ?_
     refine aS 1 ?_;refine iH 1 rfl VH (mh kw _) ?_;rintro _ Qx ⟨QE,rfl,T62⟩;refine ⟨_,rfl,?_⟩;have anV:=(Wd.drew Rx).ext T62 rfl;have Au:=Wd.uS (gs:=[.loc QE (iY Tryz.prog 3 (fun y=>if y=6 then some (.func (.func 125) #[pV kw 0] #[]) else (fun y=>if y=4 then some (.func (.func 124) #[pV kw 0] #[]) else (fun y=>if y=3 then some (.func (.func 123) #[pV kw 0] #[]) else (fun y=>if y=2 then some (.func (.func 122) #[pV kw 0] #[]) else (fun y=>if y=0 then some (.func (.func 121) #[pV kw 0] #[]) else (fun _=>none) y) y) y) y) y) 5),.blk b12 (LX.row x) 169]) anV;refine aF ?_;refine aS 4 ?_;refine dW (i:=4) rfl rfl (v:= .func (.func 123) #[pV kw 0] #[]) (wn rfl) rfl rfl (dZ 0 Au rfl rfl rfl rfl Tryz.underlying3 Tryz.underlying208 (Tryz.zeroValue207 _) (by rw [hkd];decide) (by rw [hkd];rfl)) ?_;refine aF ?_;refine aS 7 ?_;refine gI 7 rfl ao1 (Jg (K:=K) (m:=mm.put n ((mm.av n).box (mZ.map LX.l))) (x:=x) hn hkn bR hu (by show mm.fly.length≤_;omega) (by show mm.aH.length≤_;omega) anV hq (by rw [bM];exact yg)) ?_;rintro _ GZ ⟨rfl,acM⟩;refine ⟨_,rfl,?_⟩;have Bj:=Wd.uS (gs:=[.loc QE (iY Tryz.prog 3 (fun y=>if y=6 then some (.func (.func 125) #[pV kw 0] #[]) else (fun y=>if y=4 then some (.func (.func 124) #[pV kw 0] #[]) else (fun y=>if y=3 then some (.func (.func 123) #[pV kw 0] #[]) else (fun y=>if y=2 then some (.func (.func 122) #[pV kw 0] #[]) else (fun y=>if y=0 then some (.func (.func 121) #[pV kw 0] #[]) else (fun _=>none) y) y) y) y) y) 5),.blk b12 (LX.row x) 169]) acM;have XY:=Wd.less (gs:=[.loc QE (iY Tryz.prog 3 (fun y=>if y=6 then some (.func (.func 125) #[pV kw 0] #[]) else (fun y=>if y=4 then some (.func (.func 124) #[pV kw 0] #[]) else (fun y=>if y=3 then some (.func (.func 123) #[pV kw 0] #[]) else (fun y=>if y=2 then some (.func (.func 122) #[pV kw 0] #[]) else (fun y=>if y=0 then some (.func (.func 121) #[pV kw 0] #[]) else (fun _=>none) y) y) y) y) y) 5),.blk b12 (LX.row x) 169]) acM;iterate 2 refine aF ?_
     refine zQ ?_;refine bY (((mm.put n ((mm.av n).box (mZ.map LX.l))).handle n x.l)) ?_ ⟨rfl,rfl,trivial⟩ (by (try dsimp only);rw [heh.mY,bM,←mM];simp [Nd.box]);exact ⟨(by (try dsimp only);rw [Cl.handle,if_neg (by omega),if_neg (by omega),if_pos hkd];exact XY),(hi5.trans (sQ hp2 mM.symm hq)),(by (try dsimp only);rw [heh.mY,bM];have:=heh.fly;rw [show ((mm.av n).box (mZ.map LX.l)).inbox.length=mZ.length from List.length_map ..];rw [←mM] at OJ;simp only [List.length_map,List.length_cons] at OJ;have e9:(mm.put n ((mm.av n).box (mZ.map LX.l))).fly=mm.fly:=rfl;rw [e9] at this;omega),(by (try dsimp only);rw [heh.mY,bM];have:=heh.aH;rw [show ((mm.av n).box (mZ.map LX.l)).inbox.length=mZ.length from List.length_map ..];rw [←mM] at KA;simp only [List.length_map,List.length_cons] at KA;have e9:(mm.put n ((mm.av n).box (mZ.map LX.l))).aH=mm.aH:=rfl;rw [e9] at this;omega),(heh.nY (by rw [bM];exact yg)),(by (try dsimp only);rw [heh.mY,bM];exact fun l hl=>hi9 l (by rw [←mM];exact List.mem_cons_of_mem _ hl)),(by (try dsimp only);rw [heh.Ou,bM];exact l8),(Wd.uS (gs:=[]) XY)⟩
    ·have uz:=ig.drew;refine aN 8 uz [] ?_;iterate 5 refine aF ?_
     refine aS 1 ?_;refine iH 1 rfl VH (mh kw _) ?_;rintro _ w75 ⟨b74,rfl,T77⟩;refine ⟨_,rfl,?_⟩;have anW:=(Wd.drew Rx).ext T77 rfl;have FP:=Wd.uS (gs:=[.loc b74 (iY Tryz.prog 3 (fun y=>if y=6 then some (.func (.func 125) #[pV kw 0] #[]) else (fun y=>if y=4 then some (.func (.func 124) #[pV kw 0] #[]) else (fun y=>if y=3 then some (.func (.func 123) #[pV kw 0] #[]) else (fun y=>if y=2 then some (.func (.func 122) #[pV kw 0] #[]) else (fun y=>if y=0 then some (.func (.func 121) #[pV kw 0] #[]) else (fun _=>none) y) y) y) y) y) 5),.blk b12 (LX.row x) 169]) anW;refine aF ?_;refine aS 4 ?_;refine dW (i:=4) rfl rfl (v:= .func (.func 124) #[pV kw 0] #[]) (wn rfl) rfl rfl (dZ 0 FP rfl rfl rfl rfl Tryz.underlying3 Tryz.underlying208 (Tryz.zeroValue207 _) (by rw [hkd];decide) (by rw [hkd];rfl)) ?_;refine aF ?_;refine aS 7 ?_;refine gI 7 rfl ao2 (TH (K:=K) (m:=mm.put n ((mm.av n).box (mZ.map LX.l))) (x:=x) hn hkn bR hu (by show mm.fly.length≤_;omega) (by show mm.aH.length≤_;omega) anW hq (by rw [bM];exact yg) hxe) ?_;rintro _ w79 ⟨rfl,anX⟩;refine ⟨_,rfl,?_⟩;have pF:=Wd.uS (gs:=[.loc b74 (iY Tryz.prog 3 (fun y=>if y=6 then some (.func (.func 125) #[pV kw 0] #[]) else (fun y=>if y=4 then some (.func (.func 124) #[pV kw 0] #[]) else (fun y=>if y=3 then some (.func (.func 123) #[pV kw 0] #[]) else (fun y=>if y=2 then some (.func (.func 122) #[pV kw 0] #[]) else (fun y=>if y=0 then some (.func (.func 121) #[pV kw 0] #[]) else (fun _=>none) y) y) y) y) y) 5),.blk b12 (LX.row x) 169]) anX;have anY:=Wd.less (gs:=[.loc b74 (iY Tryz.prog 3 (fun y=>if y=6 then some (.func (.func 125) #[pV kw 0] #[]) else (fun y=>if y=4 then some (.func (.func 124) #[pV kw 0] #[]) else (fun y=>if y=3 then some (.func (.func 123) #[pV kw 0] #[]) else (fun y=>if y=2 then some (.func (.func 122) #[pV kw 0] #[]) else (fun y=>if y=0 then some (.func (.func 121) #[pV kw 0] #[]) else (fun _=>none) y) y) y) y) y) 5),.blk b12 (LX.row x) 169]) anX;iterate 2 refine aF ?_
     refine zQ ?_;refine bY (((mm.put n ((mm.av n).box (mZ.map LX.l))).handle n x.l)) ?_ ⟨rfl,rfl,trivial⟩ (by (try dsimp only);rw [heh.mY,bM,←mM];simp [Nd.box]);exact ⟨(by (try dsimp only);rw [Cl.handle,if_neg (by omega),if_neg (by omega),if_neg (by omega),if_pos hkd];exact anY),(hi5.trans (sQ hp2 mM.symm hq)),(by (try dsimp only);rw [heh.mY,bM];have:=heh.fly;rw [show ((mm.av n).box (mZ.map LX.l)).inbox.length=mZ.length from List.length_map ..];rw [←mM] at OJ;simp only [List.length_map,List.length_cons] at OJ;have e9:(mm.put n ((mm.av n).box (mZ.map LX.l))).fly=mm.fly:=rfl;rw [e9] at this;omega),(by (try dsimp only);rw [heh.mY,bM];have:=heh.aH;rw [show ((mm.av n).box (mZ.map LX.l)).inbox.length=mZ.length from List.length_map ..];rw [←mM] at KA;simp only [List.length_map,List.length_cons] at KA;have e9:(mm.put n ((mm.av n).box (mZ.map LX.l))).aH=mm.aH:=rfl;rw [e9] at this;omega),(heh.nY (by rw [bM];exact yg)),(by (try dsimp only);rw [heh.mY,bM];exact fun l hl=>hi9 l (by rw [←mM];exact List.mem_cons_of_mem _ hl)),(by (try dsimp only);rw [heh.Ou,bM];exact l8),(Wd.uS (gs:=[]) anY)⟩
    have uj:=ig.drew;refine aN 8 uj [] ?_;iterate 5 refine aF ?_
    refine aS 1 ?_;refine iH 1 rfl VH (mh kw _) ?_;rintro _ VQ ⟨b89,rfl,Xd⟩;refine ⟨_,rfl,?_⟩;have anZ:=(Wd.drew Rx).ext Xd rfl;have rP:=Wd.uS (gs:=[.loc b89 (iY Tryz.prog 3 (fun y=>if y=6 then some (.func (.func 125) #[pV kw 0] #[]) else (fun y=>if y=4 then some (.func (.func 124) #[pV kw 0] #[]) else (fun y=>if y=3 then some (.func (.func 123) #[pV kw 0] #[]) else (fun y=>if y=2 then some (.func (.func 122) #[pV kw 0] #[]) else (fun y=>if y=0 then some (.func (.func 121) #[pV kw 0] #[]) else (fun _=>none) y) y) y) y) y) 5),.blk b12 (LX.row x) 169]) anZ;refine aF ?_;refine aS 4 ?_;refine dW (i:=4) rfl rfl (v:= .func (.func 125) #[pV kw 0] #[]) (wn rfl) rfl rfl (dZ 0 rP rfl rfl rfl rfl Tryz.underlying3 Tryz.underlying208 (Tryz.zeroValue207 _) (by rw [hkd];decide) (by rw [hkd];rfl)) ?_;refine aF ?_;refine aS 7 ?_;refine gI 7 rfl ao3 (Jh (K:=K) (m:=mm.put n ((mm.av n).box (mZ.map LX.l))) (x:=x) hn hkn bR hu (by show mm.fly.length≤_;omega) (by show mm.aH.length≤_;omega) anZ hq (by rw [bM];exact yg)) ?_;rintro _ w94 ⟨rfl,an0⟩;refine ⟨_,rfl,?_⟩;have Bn:=Wd.uS (gs:=[.loc b89 (iY Tryz.prog 3 (fun y=>if y=6 then some (.func (.func 125) #[pV kw 0] #[]) else (fun y=>if y=4 then some (.func (.func 124) #[pV kw 0] #[]) else (fun y=>if y=3 then some (.func (.func 123) #[pV kw 0] #[]) else (fun y=>if y=2 then some (.func (.func 122) #[pV kw 0] #[]) else (fun y=>if y=0 then some (.func (.func 121) #[pV kw 0] #[]) else (fun _=>none) y) y) y) y) y) 5),.blk b12 (LX.row x) 169]) an0;have an1:=Wd.less (gs:=[.loc b89 (iY Tryz.prog 3 (fun y=>if y=6 then some (.func (.func 125) #[pV kw 0] #[]) else (fun y=>if y=4 then some (.func (.func 124) #[pV kw 0] #[]) else (fun y=>if y=3 then some (.func (.func 123) #[pV kw 0] #[]) else (fun y=>if y=2 then some (.func (.func 122) #[pV kw 0] #[]) else (fun y=>if y=0 then some (.func (.func 121) #[pV kw 0] #[]) else (fun _=>none) y) y) y) y) y) 5),.blk b12 (LX.row x) 169]) an0;iterate 2 refine aF ?_
    refine zQ ?_;refine bY (((mm.put n ((mm.av n).box (mZ.map LX.l))).handle n x.l)) ?_ ⟨rfl,rfl,trivial⟩ (by (try dsimp only);rw [heh.mY,bM,←mM];simp [Nd.box]);exact ⟨(by (try dsimp only);rw [Cl.handle,if_neg (by omega),if_neg (by omega),if_neg (by omega),if_neg (by omega)];exact an1),(hi5.trans (sQ hp2 mM.symm hq)),(by (try dsimp only);rw [heh.mY,bM];have:=heh.fly;rw [show ((mm.av n).box (mZ.map LX.l)).inbox.length=mZ.length from List.length_map ..];rw [←mM] at OJ;simp only [List.length_map,List.length_cons] at OJ;have e9:(mm.put n ((mm.av n).box (mZ.map LX.l))).fly=mm.fly:=rfl;rw [e9] at this;omega),(by (try dsimp only);rw [heh.mY,bM];have:=heh.aH;rw [show ((mm.av n).box (mZ.map LX.l)).inbox.length=mZ.length from List.length_map ..];rw [←mM] at KA;simp only [List.length_map,List.length_cons] at KA;have e9:(mm.put n ((mm.av n).box (mZ.map LX.l))).aH=mm.aH:=rfl;rw [e9] at this;omega),(heh.nY (by rw [bM];exact yg)),(by (try dsimp only);rw [heh.mY,bM];exact fun l hl=>hi9 l (by rw [←mM];exact List.mem_cons_of_mem _ hl)),(by (try dsimp only);rw [heh.Ou,bM];exact l8),(Wd.uS (gs:=[]) an1)⟩
   iterate 22 refine zQ ?_
   refine vv (v:= .bool true) (ah rfl rfl rfl OC) ?_;iterate 6 refine zQ ?_
   refine dO aoS (TI hn hkn bR hu (by omega) (by omega) hi4 (by rw [hX2,l8];exact htn) (by rw [hX2];exact yg)) ?_;rintro _ w98 ⟨rfl,awj⟩;refine ⟨_,rfl,?_⟩;refine zQ ?_;refine bN (l':=[]) trivial (aY (rs:=[]) (vs:=[]) rfl trivial ?_);have hup:X.up=true:=by assumption
   have hmo:m.more n=mm:=hi5.trans (OD (by rw [hX2,←mM,List.length_eq_zero_iff.1 (by omega:ixv.length=0)];rfl));rw [zk (by rw [hX];exact hup) (by rw [hX];exact hp),hmo,if_pos (by rw [hX2,hp2])];exact ⟨rfl,awj⟩
  rw [hp2] at Rw;obtain ⟨f2,xs2,ys2,aiv⟩:=Gt Rw;subst aiv;iterate 8 refine zQ ?_
  by_cases aDm:0< ((ixv.length:Nat):Int)
  ·iterate 6 refine zQ ?_
   refine vg (v:= .bool false) (ah rfl rfl rfl Gq) ?_;iterate 15 refine zQ ?_
   refine vv (v:= .bool false) (ah rfl rfl rfl Gq) ?_;iterate 5 refine zQ ?_
   have hup:X.up=true:=by assumption
   have hmo:m.more n=mm:=hi5.trans (DI (by rw [hX2,hp2];simp));rw [zk (by rw [hX];exact hup) (by rw [hX];exact hp),hmo,if_neg (by rw [hX2,hp2];simp)];exact ⟨rfl,hi4⟩
  iterate 22 refine zQ ?_
  refine vv (v:= .bool false) (ah rfl rfl rfl Gq) ?_;iterate 5 refine zQ ?_
  have hup:X.up=true:=by assumption
  have hmo:m.more n=mm:=hi5.trans (DI (by rw [hX2,hp2];simp));rw [zk (by rw [hX];exact hup) (by rw [hX];exact hp),hmo,if_neg (by rw [hX2,hp2];simp)];exact ⟨rfl,hi4⟩
 obtain ⟨hft,htm⟩:=hpd _ (hX▸hp);rw [hX] at htm
 rcases p with ⟨q,evs,op,num,a⟩ | ⟨q,b⟩ | ⟨q,b,last⟩ | ⟨q,b,at_⟩ | ⟨q,b⟩
 ·rw [hp] at hpn;obtain ⟨b1,b2,b3,b4,b5,b6,b7,y2,x,hpf,hm1,he,Ci,hm2,uR,CV,OI,Xq,hop,awk,UY⟩:=hpn;subst hpf;subst he;subst hop;subst awk;have hq:q<4:=hft.1;obtain ⟨y,hy,hyb,qZ⟩:=NG.at_ hq;iterate 5 refine zQ ?_
  refine vv (v:= .bool true) (ah rfl rfl rfl u6) ?_;iterate 9 refine zQ ?_
  refine vv (aj rfl rfl (aG (cs:=[.slice z.tA X.data.length z.tc,iV X.syn]) Tryz.underlying125 rfl dX rfl (St.rg 0 S rfl (qy)))) ?_;have C8:=fun w h=>yI (nE z.tA X.data.length z.tc X.data X.syn w h)
  rw [vU htm] at C8;refine dO MU (C8 _ (NG.vO.rd S (memT 7 rfl hL))) ?_;rintro _ ab8 ⟨Ry,acN,rfl,awl⟩;refine ⟨_,rfl,?_⟩;have qG:=S.ext awl rfl;iterate 5 refine zQ ?_
  refine iU (row':=aU n X.up (.slice Ry X.data.length acN) ((X.data.length:Nat):Int) (.slice (aD z.bb 0) 4 4) X.hints X.sure (.slice z.iA z.ix.length z.ic) (.func (.func 153) #[] #[fI b1,fI b2,fI b3,fI b4,fI b5]) X.turn) 1 qG dX ?_;intro Wj wo;iterate 16 refine zQ ?_
  refine iU (row':=aU n X.up (.slice Ry X.data.length acN) ((X.data.length:Nat):Int) (.slice (aD z.bb 0) 4 4) X.hints X.sure (.slice z.iA z.ix.length z.ic) (.nilFunc) X.turn) 1 wo oC ?_;intro ahq BN;iterate 5 refine zQ ?_
  have pq:=BN.dM [7,7,7,7,7,7,7];refine uF ao7 (MO hn hq hy pq (memT 1 rfl hL _ hm1) (memT 1 rfl hL _ hm2) (memT 1 rfl hL _ uR) (memT 1 rfl hL _ CV) (memT 1 rfl hL _ OI) (memT 1 rfl hL _ Xq) (memT 1 rfl hL _ UY) hu (by omega) (by omega)) ?_;rintro _ Q7 ⟨rfl,hd1,hd2⟩;refine ⟨_,rfl,?_⟩;refine zQ ?_;refine bN (l':=[]) trivial (gJ (nJ (fZ (dI (rs:=[]) (vs:=[]) rfl trivial ?_))));have hup:X.up=true:=by assumption
  by_cases hs:serves y.b
  ·obtain ⟨Oy,sc',sv',xw,xA,jl,h1,h2,S9⟩:=hd1 hs;subst h1;subst h2;rw [zl hX hup hp hyb.symm hs];exact ⟨rfl,Wd.dw (X':=X.uo.dS q { y.b with evs:=y2.b.evs }) (z':={ z with tA:=Ry,tc:=acN,pv:= .nilFunc,bx:=z.bx.set q (⟨{ y.b with evs:=y2.b.evs },y2.A,y2.c⟩:BX) }) (Ls:=[.bG 1 Ry X.data.length (byteCells X.data)]) (fA:=xw) (fc:=xA) (fx:=_) (sA:=Oy) (sc:=sc') (tA:=R.tA) (tc:=R.tc) hkn bR hrr G hn S9 (NG.EH hq (Y:=(⟨{ y.b with evs:=y2.b.evs },y2.A,y2.c⟩:BX)) (fun f hf=>List.mem_append_left _ hf) (List.mem_append_right _ (List.mem_singleton.2 rfl)) Ci) (nu (gY rfl)) rfl (by rw [List.map_append,G.fly];rfl) mI⟩
  obtain ⟨xw,xA,jl,h2,S9⟩:=hd2 hs;subst h2;rw [Jd hX hup hp hyb.symm hs];exact ⟨rfl,Wd.dw (X':=X.uo.dS q { y.b with evs:=y2.b.evs }) (z':={ z with tA:=Ry,tc:=acN,pv:= .nilFunc,bx:=z.bx.set q (⟨{ y.b with evs:=y2.b.evs },y2.A,y2.c⟩:BX) }) (Ls:=[.bG 1 Ry X.data.length (byteCells X.data)]) (fA:=xw) (fc:=xA) (fx:=_) (sA:=R.sA) (sc:=R.sc) (tA:=R.tA) (tc:=R.tc) hkn bR hrr G hn S9 (NG.EH hq (Y:=(⟨{ y.b with evs:=y2.b.evs },y2.A,y2.c⟩:BX)) (fun f hf=>List.mem_append_left _ hf) (List.mem_append_right _ (List.mem_singleton.2 rfl)) Ci) (nu (gY rfl)) rfl (by rw [List.map_append,G.fly];rfl) mI⟩
 ·rw [hp] at hpn;obtain ⟨b1,b2,b3,b4,y2,hpf,hm1,he,Ci,hm2,uR,CV⟩:=hpn;subst hpf;subst he;have hq:q<4:=hft;obtain ⟨y,hy,hyb,qZ⟩:=NG.at_ hq;iterate 5 refine zQ ?_
  refine vv (v:= .bool true) (ah rfl rfl rfl u6) ?_;iterate 9 refine zQ ?_
  refine vv (aj rfl rfl (aG (cs:=[.slice z.tA X.data.length z.tc,iV X.syn]) Tryz.underlying125 rfl dX rfl (St.rg 0 S rfl (qy)))) ?_;have C8:=fun w h=>yI (nE z.tA X.data.length z.tc X.data X.syn w h)
  rw [vU htm] at C8;refine dO MU (C8 _ (NG.vO.rd S (memT 7 rfl hL))) ?_;rintro _ V6 ⟨acO,aiw,rfl,awm⟩;refine ⟨_,rfl,?_⟩;have ko:=S.ext awm rfl;iterate 5 refine zQ ?_
  refine iU (row':=aU n X.up (.slice acO X.data.length aiw) ((X.data.length:Nat):Int) (.slice (aD z.bb 0) 4 4) X.hints X.sure (.slice z.iA z.ix.length z.ic) (.func (.func 156) #[] #[fI b1,fI b2,fI b3,fI b4]) X.turn) 1 ko dX ?_;intro W9 uI;iterate 16 refine zQ ?_
  refine iU (row':=aU n X.up (.slice acO X.data.length aiw) ((X.data.length:Nat):Int) (.slice (aD z.bb 0) 4 4) X.hints X.sure (.slice z.iA z.ix.length z.ic) (.nilFunc) X.turn) 1 uI oC ?_;intro amD oM;iterate 5 refine zQ ?_
  have tV:=oM.dM [7,7,7,7,7,7,7];refine uF ao8 (MP hn hq hy tV (memT 1 rfl hL _ hm1) (memT 1 rfl hL _ hm2) (memT 1 rfl hL _ uR) (memT 1 rfl hL _ CV) (by omega)) ?_;rintro _ MX ⟨rfl,xw,xA,jl,hf',S9⟩;refine ⟨_,rfl,?_⟩;refine zQ ?_;refine bN (l':=[]) trivial (gJ (nJ (fZ (dI (rs:=[]) (vs:=[]) rfl trivial ?_))));have hup:X.up=true:=by assumption
  subst hf';rw [Hq hX hup hp];exact ⟨rfl,Wd.dw (X':=X.uo.dS q y2.b) (z':={ z with tA:=acO,tc:=aiw,pv:= .nilFunc,bx:=z.bx.set q y2 }) (Ls:=[.bG 1 acO X.data.length (byteCells X.data)]) (fA:=xw) (fc:=xA) (fx:=_) (sA:=R.sA) (sc:=R.sc) (tA:=R.tA) (tc:=R.tc) hkn bR hrr G hn S9 (NG.EH hq (Y:=y2) (fun f hf=>List.mem_append_left _ hf) (List.mem_append_right _ (List.mem_singleton.2 rfl)) Ci) (nu (gY rfl)) rfl (by rw [List.map_append,G.fly];rfl) mI⟩
 ·rw [hp] at hpn;obtain ⟨b1,b2,b3,b4,b5,y2,x,hpf,hm1,he,Ci,hm2,uR,CV,hla,OI⟩:=hpn;subst hpf;subst he;subst hla;have hq:q<4:=hft;obtain ⟨y,hy,hyb,qZ⟩:=NG.at_ hq;iterate 5 refine zQ ?_
  refine vv (v:= .bool true) (ah rfl rfl rfl u6) ?_;iterate 9 refine zQ ?_
  refine vv (aj rfl rfl (aG (cs:=[.slice z.tA X.data.length z.tc,iV X.syn]) Tryz.underlying125 rfl dX rfl (St.rg 0 S rfl (qy)))) ?_;have C8:=fun w h=>yI (nE z.tA X.data.length z.tc X.data X.syn w h)
  rw [vU htm] at C8;refine dO MU (C8 _ (NG.vO.rd S (memT 7 rfl hL))) ?_;rintro _ Q8 ⟨Rz,c124,rfl,awn⟩;refine ⟨_,rfl,?_⟩;have kH:=S.ext awn rfl;iterate 5 refine zQ ?_
  refine iU (row':=aU n X.up (.slice Rz X.data.length c124) ((X.data.length:Nat):Int) (.slice (aD z.bb 0) 4 4) X.hints X.sure (.slice z.iA z.ix.length z.ic) (.func (.func 161) #[] #[fI b1,fI b2,fI b3,fI b4,fI b5]) X.turn) 1 kH dX ?_;intro avc rD;iterate 16 refine zQ ?_
  refine iU (row':=aU n X.up (.slice Rz X.data.length c124) ((X.data.length:Nat):Int) (.slice (aD z.bb 0) 4 4) X.hints X.sure (.slice z.iA z.ix.length z.ic) (.nilFunc) X.turn) 1 rD oC ?_;intro MZ oK;iterate 5 refine zQ ?_
  have qE:=oK.dM [7,7,7,7,7,7,7];refine uF apb (TF hn hq hy qE (memT 1 rfl hL _ hm1) (memT 1 rfl hL _ hm2) (memT 1 rfl hL _ uR) (memT 1 rfl hL _ CV) (memT 1 rfl hL _ OI) (by omega) (by omega)) ?_;rintro _ Ih ⟨rfl,hd1,hd2⟩;refine ⟨_,rfl,?_⟩;refine zQ ?_;refine bN (l':=[]) trivial (gJ (nJ (fZ (dI (rs:=[]) (vs:=[]) rfl trivial ?_))));have hup:X.up=true:=by assumption
  cases hla:x.l.last
  ·obtain ⟨xw,xA,jl,h2,S9⟩:=hd2 hla;subst h2;rw [OE hX hup (by rw [hp,hla])];exact ⟨rfl,Wd.dw (X':=X.uo.dS q y2.b) (z':={ z with tA:=Rz,tc:=c124,pv:= .nilFunc,bx:=z.bx.set q y2 }) (Ls:=[.bG 1 Rz X.data.length (byteCells X.data)]) (fA:=xw) (fc:=xA) (fx:=_) (sA:=R.sA) (sc:=R.sc) (tA:=R.tA) (tc:=R.tc) hkn bR hrr G hn S9 (NG.EH hq (Y:=y2) (fun f hf=>List.mem_append_left _ hf) (List.mem_append_right _ (List.mem_singleton.2 rfl)) Ci) (nu (gY rfl)) rfl (by rw [List.map_append,G.fly];rfl) mI⟩
  obtain ⟨Oy,sc',sv',h1,S9⟩:=hd1 hla;subst h1;rw [Ay hX hup (by rw [hp,hla])];exact ⟨rfl,Wd.dw (X':={ (X.uo.dS q y2.b) with sure:=upd X.sure q false }) (z':={ z with tA:=Rz,tc:=c124,pv:= .nilFunc,bx:=z.bx.set q y2 }) (Ls:=[.bG 1 Rz X.data.length (byteCells X.data)]) (fA:=R.fA) (fc:=R.fc) (fx:=R.fx) (sA:=Oy) (sc:=sc') (tA:=R.tA) (tc:=R.tc) hkn bR hrr G hn S9 (dz.hear (NG.EH hq (Y:=y2) (fun f hf=>List.mem_append_left _ hf) (List.mem_append_right _ (List.mem_singleton.2 rfl)) Ci)) (fun u hu=> .inl hu) rfl G.fly.symm mI⟩
 ·rw [hp] at hpn;obtain ⟨b1,b2,b3,b4,b5,y2,x,hpf,hm1,he,Ci,hm2,uR,CV,OI,hla⟩:=hpn;subst hpf;subst he;subst hla;have hq:q<4:=hft.1;obtain ⟨y,hy,hyb,qZ⟩:=NG.at_ hq;iterate 5 refine zQ ?_
  refine vv (v:= .bool true) (ah rfl rfl rfl u6) ?_;iterate 9 refine zQ ?_
  refine vv (aj rfl rfl (aG (cs:=[.slice z.tA X.data.length z.tc,iV X.syn]) Tryz.underlying125 rfl dX rfl (St.rg 0 S rfl (qy)))) ?_;have C8:=fun w h=>yI (nE z.tA X.data.length z.tc X.data X.syn w h)
  rw [vU htm] at C8;refine dO MU (C8 _ (NG.vO.rd S (memT 7 rfl hL))) ?_;rintro _ Kh ⟨acP,aix,rfl,ail⟩;refine ⟨_,rfl,?_⟩;have uJ:=S.ext ail rfl;iterate 5 refine zQ ?_
  refine iU (row':=aU n X.up (.slice acP X.data.length aix) ((X.data.length:Nat):Int) (.slice (aD z.bb 0) 4 4) X.hints X.sure (.slice z.iA z.ix.length z.ic) (.func (.func 159) #[] #[fI b1,fI b2,fI b3,fI b4,fI b5]) X.turn) 1 uJ dX ?_;intro ato Dp;iterate 16 refine zQ ?_
  refine iU (row':=aU n X.up (.slice acP X.data.length aix) ((X.data.length:Nat):Int) (.slice (aD z.bb 0) 4 4) X.hints X.sure (.slice z.iA z.ix.length z.ic) (.nilFunc) X.turn) 1 Dp oC ?_;intro ant EY;iterate 5 refine zQ ?_
  have JN:=EY.dM [7,7,7,7,7,7,7];have aDn:=jC (iO hft.2);have aiq:y2.b.evs.length*48≤reachBytes:=by unfold reachBytes;omega
  have air:=uZ hft.2;refine uF apa (P8 (L:=R.L) hn hq hy JN (memT 1 rfl hL _ hm1) (memT 1 rfl hL _ hm2) (memT 1 rfl hL _ uR) (memT 1 rfl hL _ CV) (memT 1 rfl hL _ OI) Ci (memT 1 rfl hL) aiq air (by omega)) ?_;rintro _ VU ⟨rfl,xw,xA,jl,N,hf',hx',S9⟩;refine ⟨_,rfl,?_⟩;refine zQ ?_;refine bN (l':=[]) trivial (gJ (nJ (fZ (dI (rs:=[]) (vs:=[]) rfl trivial ?_))));have hup:X.up=true:=by assumption
  rw [Kq hX hup hp];exact ⟨rfl,Wd.fin (X':=X.uo.dS q y2.b) (z':={ z with tA:=acP,tc:=aix,pv:= .nilFunc,bx:=z.bx.set q y2 }) (N:=N) (Ls:=[.bG 1 acP X.data.length (byteCells X.data)]) (fA:=xw) (fc:=xA) (fx:=jl) (sA:=R.sA) (sc:=R.sc) (tA:=R.tA) (tc:=R.tc) hkn bR hrr G hn S9 (NG.EH hq (Y:=y2) (fun f hf=>List.mem_append_left _ hf) (List.mem_append_right _ (List.mem_append_right _ (List.mem_singleton.2 rfl))) Ci) (fun u hu=>(hx' u hu).imp id fun h=>h.mono fun f hf=>List.mem_append_right _ (List.mem_append_left _ hf)) rfl (by rw [hf',G.fly]) mI⟩
 rw [hp] at hpn;obtain ⟨b1,b2,b3,y2,hpf,hm1,he,Ci,hm2,uR⟩:=hpn;subst hpf;subst he;have hq:q<4:=hft;obtain ⟨y,hy,hyb,qZ⟩:=NG.at_ hq;iterate 5 refine zQ ?_
 refine vv (v:= .bool true) (ah rfl rfl rfl u6) ?_;iterate 9 refine zQ ?_
 refine vv (aj rfl rfl (aG (cs:=[.slice z.tA X.data.length z.tc,iV X.syn]) Tryz.underlying125 rfl dX rfl (St.rg 0 S rfl (qy)))) ?_;have C8:=fun w h=>yI (nE z.tA X.data.length z.tc X.data X.syn w h)
 rw [vU htm] at C8;refine dO MU (C8 _ (NG.vO.rd S (memT 7 rfl hL))) ?_;rintro _ aht ⟨Nc,c146,rfl,awo⟩;refine ⟨_,rfl,?_⟩;have xK:=S.ext awo rfl;iterate 5 refine zQ ?_
 refine iU (row':=aU n X.up (.slice Nc X.data.length c146) ((X.data.length:Nat):Int) (.slice (aD z.bb 0) 4 4) X.hints X.sure (.slice z.iA z.ix.length z.ic) (.func (.func 163) #[] #[fI b1,fI b2,fI b3]) X.turn) 1 xK dX ?_;intro ahu EZ;iterate 16 refine zQ ?_
 refine iU (row':=aU n X.up (.slice Nc X.data.length c146) ((X.data.length:Nat):Int) (.slice (aD z.bb 0) 4 4) X.hints X.sure (.slice z.iA z.ix.length z.ic) (.nilFunc) X.turn) 1 EZ oC ?_;intro atv V8;iterate 5 refine zQ ?_
 have tX:=V8.dM [7,7,7,7,7,7,7];refine uF apc (Je hn hq hy tX (memT 1 rfl hL _ hm1) (memT 1 rfl hL _ hm2) (memT 1 rfl hL _ uR)) ?_;rintro _ avW ⟨rfl,S9⟩;refine ⟨_,rfl,?_⟩;refine zQ ?_;refine bN (l':=[]) trivial (gJ (nJ (fZ (dI (rs:=[]) (vs:=[]) rfl trivial ?_))));have hup:X.up=true:=by assumption
 rw [Es hX hup hp];exact ⟨rfl,Wd.dw (X':=X.uo.dS q y2.b) (z':={ z with tA:=Nc,tc:=c146,pv:= .nilFunc,bx:=z.bx.set q y2 }) (Ls:=[.bG 1 Nc X.data.length (byteCells X.data)]) (fA:=R.fA) (fc:=R.fc) (fx:=R.fx) (sA:=R.sA) (sc:=R.sc) (tA:=R.tA) (tc:=R.tc) hkn bR hrr G hn S9 (NG.EH hq (Y:=y2) (fun f hf=>List.mem_append_left _ hf) (List.mem_append_right _ (List.mem_singleton.2 rfl)) Ci) (fun u hu=> .inl hu) rfl G.fly.symm mI⟩
section
variable {K:CK} {L fs:List Fact} {B n:Nat} {w0 w:World} {A:Option Addr}
theorem zn (h:Ro L 1 A 5 ((List.range 5).map fun j=>fI (K.nb j))) (S:St B w0 w fs) (hL: ∀ f∈L,f∈fs): ∃ b o,A=some ⟨b,o,none⟩:=by
 obtain ⟨b,o,e,_⟩:=(h.rd S hL).2 (by omega);exact ⟨b,o,e⟩
theorem uq {b o:Nat} (h:Ro L 1 (some ⟨b,o,none⟩) 5 ((List.range 5).map fun j=>fI (K.nb j))) (hn:n<5) (S:St B w0 w fs) (hL: ∀ f∈L,f∈fs):w.cell? ⟨b,o+n*1,none⟩=some (.pointer (some ⟨K.nb n,0,none⟩)):=by
 obtain ⟨b',o',e,_,hc⟩:=(h.rd S hL).2 (by omega)
 cases e;have hx:((List.range 5).map fun j=>fI (K.nb j))[n*1]? =some (fI (K.nb n)):=by
  rw [Nat.mul_one,List.getElem?_map,List.getElem?_range hn];rfl
 exact hc (n*1) _ hx
end
theorem KC {P:Program} {N:Nat} {l:Slots} {o:Oper} {w:World} {x y:Bool} (h:x=y) (p:gq P N l o w (.bool x)):gq P N l o w (.bool y):=h▸p
theorem zo {P:Program} {N:Nat} {l:Slots} {o:Oper} {w:World} {x y:Int} (h:x=y) (p:gq P N l o w (.int .i64 x)):gq P N l o w (.int .i64 y):=h▸p
theorem lT {L i:Nat} (h:i<L):(List.range L).drop i=i::(List.range L).drop (i+1):=by
 rw [List.drop_eq_getElem_cons (by rw [List.length_range];exact h),List.getElem_range]
theorem mJ {P:Program} {w:World} {t e:TypeId} {A:Option Addr} {b off n c s:Nat} {i:Int} {kd:IntKind} (k:Nat) (hA:A=some ⟨b,off,none⟩) (hu:P.underlying t=some (.slice e)) (hz:(P.info? e).map (·.size)=some s) (hik:i=k) (hk:k<n):
  (Instr.indexAt t (.slice A n c) (.int kd i)).run P w= .ok (pV b (off+k*s)) w:=by
 subst hA;exact Eb k hu hz hik hk
section
variable {L fs:List Fact} {B n s:Nat} {w0 w:World} {A:Option Addr} {xs:List Value} {b o k:Nat} {u:Value}
theorem rd_some {z:Nat} (h:Rd w z s A n xs) (hn:0<n): ∃ b o,A=some ⟨b,o,none⟩:=by
 obtain ⟨b,o,e,_⟩:=h.2 hn;exact ⟨b,o,e⟩
theorem La (h:Ro L s A n xs) (S:St B w0 w fs) (hL: ∀ f∈L,f∈fs) (hn:0<n): ∃ b o,A=some ⟨b,o,none⟩:=rd_some (h.rd S hL) hn
theorem Fw {z:Nat} (h:Rd w z s A n xs) (hA:A=some ⟨b,o,none⟩) (hx:xs[k]? =some u):w.cell? ⟨b,o+k,none⟩=some u:=by
 have hn:0<n:=by
  rcases Nat.eq_zero_or_pos n with h0 | h0
  ·have:=h.1;rw [h0,Nat.zero_mul] at this;rw [List.length_eq_zero_iff.1 this] at hx;simp at hx
  exact h0
 obtain ⟨b',o',e,_,hc⟩:=h.2 hn;rw [hA] at e
 cases e;exact hc k u hx
theorem Fx (h:Ro L s A n xs) (hA:A=some ⟨b,o,none⟩) (S:St B w0 w fs) (hL: ∀ f∈L,f∈fs) (hx:xs[k]? =some u):w.cell? ⟨b,o+k,none⟩=some u:=Fw (h.rd S hL) hA hx
end
section
variable {m mm:Cl} {n q F0:Nat} {e:Ev} {a:iK} {u:Int} {b:bO}
theorem KD (h:mm={ m with aH:=mm.aH,shown:=mm.shown }):mm.tell n q e a u={ m with aH:=(mm.tell n q e a u).aH,shown:=(mm.tell n q e a u).shown }:=by
 have h1:=congrArg Cl.av h;have h2:=congrArg Cl.off h;have h3:=congrArg Cl.fly h;have h4:=congrArg Cl.aM h;have h5:=congrArg Cl.calls h;unfold Cl.tell;simp only [Cl.mk.injEq];exact ⟨h1,h2,h3,trivial,trivial,h4,h5⟩
theorem Qb (hb:(m.av n).bs q=b) (h: ¬ (m.shown n q).1=b.ep):m.recover n q={ m with aH:=m.aH++[⟨n,q,b.ep,bU,gF,-1⟩],shown:=ni m.shown n q (b.ep,(b.evs.length:Int)) }:=by
 subst hb;unfold Cl.recover;rw [if_pos h];rfl
theorem Qc (hb:(m.av n).bs q=b) (h:(m.shown n q).1=b.ep) (hF:(m.shown n q).2=((F0:Nat):Int)):m.recover n q=m.recovered n q b.evs (aV b.evs).2.1 ((List.range b.evs.length).drop F0):=by
 subst hb;unfold Cl.recover;rw [if_neg (fun e=>e h),hF,Int.toNat_natCast]
end
theorem FY {K:CK} {B n kn kw:Nat} {w0 w:World} {fs:List Fact} {m:Cl} {H:List LX} {q:Nat} (hn:n<5) (hkn:K.nb n=kn) (bR:K.wb=kw) (hu:Uk B w0) (hB1:m.fly.length≤1000000000) (hB2:m.aH.length≤1000000000000) (hq:q<4) (HW:Wd K B w0 w fs m H) (hv: ∀ q,q<4→au ((m.av n).bs q)=0) (hsh:0≤(m.shown n q).2):
    Calls Tryz.prog 107 #[pV kw 0,pV kn 0,iV ((q:Nat):Int)] w (fun e w'=>e= .returned (.tuple #[])∧Wd K B w0 w' fs (m.recover n q) H):=by
 obtain ⟨R,G,S0⟩:=HW.open hn;have hfl:R.fx.length=m.fly.length:=by rw [←G.fly,List.length_map]
 have NG:=G.lC n hn;obtain ⟨X,hX⟩: ∃ X,m.av n=X:=⟨_,rfl⟩;obtain ⟨z,hz⟩: ∃ z,R.nx n=z:=⟨_,rfl⟩;rw [hX,hz] at S0 NG;have hL: ∀ f∈R.L,f∈eZ K R m fs n:=fun f h=>List.mem_append_right _ (List.mem_append_right _ h)
 obtain ⟨rr,hrr⟩: ∃ r,eZ K R m fs n=r:=⟨_,rfl⟩;rw [hrr] at S0 hL;have S:St B w0 w ((.blk kn (aU n X.up (.slice z.tA X.data.length z.tc) X.syn (.slice (aD z.bb 0) 4 4) X.hints X.sure (.slice z.iA z.ix.length z.ic) (z.pv) X.turn) 129)::(.own 42 6 (.slice (aD z.bb 0) 4 4) 4 ((z.bx).flatMap BX.cells))::(.off 169 23 z.iA z.ix.length z.ic ((z.ix).flatMap LX.cells))::(.blk kw (bL (.slice R.nA 5 R.nc) m.off (.slice R.fA R.fx.length R.fc) m.shown (.slice R.sA m.aH.length R.sc) (.slice R.tA m.aM.length R.tc) m.calls) 121)::(.own 169 23 (.slice R.fA R.fx.length R.fc) R.fx.length ((R.fx).flatMap LX.cells))::(.own 85 14 (.slice R.sA m.aH.length R.sc) m.aH.length ((m.aH).flatMap eT.cells))::(.own 81 7 (.slice R.tA m.aM.length R.tc) m.aM.length ((m.aM).flatMap fK.cells))::rr):=by subst hkn;subst bR;exact S0
 clear S0 HW;have hlen:=(S.own 1 rfl).1;rw [gL (sz:=6) (fun _=>rfl)] at hlen;rw [hX] at hv;obtain ⟨y,hy,hyb,qZ⟩:=NG.at_ hq;have hln:=jC (iO (hyb▸hv _ hq));have wR:y.b.evs.length*48≤reachBytes:=by unfold reachBytes;omega
 have Iu:=uZ (hyb▸hv _ hq);obtain ⟨F0,hF0⟩: ∃ F0:Nat,(m.shown n q).2=((F0:Nat):Int):=⟨_,(Int.toNat_of_nonneg hsh).symm⟩;have hle:y.b.evs.length≤1152921504606846976:=by omega
 have hal:(aV y.b.evs).2.1.length=y.b.evs.length:=Xi (iO (hyb▸hv _ hq));refine fE 68 Tryz.func107 ?_;refine cw [0,1,2] ?_;iterate 7 refine zQ ?_
 refine vv (gM q) ?_;refine vv (aj rfl rfl (aG (cs:=BX.cells y) Tryz.underlying42 rfl aC rfl (Rd.uN (St.ord 1 S rfl) (fun _ _ h=>bS (enc:=BX.cells) (sz:=6) (fun _=>rfl) hy h)))) ?_;refine eU S dK ?_;intro b1 w2 S3;refine sa 0 S3 aC ?_;intro w4 S5;iterate 3 refine zQ ?_
 have S6:=S5.drew;refine fG 13 12 S6 [] ?_;iterate 8 refine iP ?_
 refine gk (v:=pV kw (10+n*8)) 8 rfl S6 (fun _ _=>(bP rfl rfl rfl (eu n Tryz.underlying119 JG rfl hn))) ?_;refine gk (v:=pV kw (10+n*8+q*2)) 9 rfl S6 (fun _ _=>(bP rfl rfl rfl (eu q Tryz.underlying118 xD rfl hq))) ?_;refine gk (v:= .agg #[iV ((m.shown n q).1),iV ((m.shown n q).2)]) 10 rfl S6 (fun _ awp=>(aj rfl rfl (aG (cs:=[iV ((m.shown n q).1),iV ((m.shown n q).2)]) Tryz.underlying117 rfl xD rfl (St.rg 4 awp rfl (ap6 hn hq))))) ?_;refine gW (m:=1) (r:=11) (by kernel_rfl) ?_;refine kS (i:=11) rfl rfl (V:=fun b=>pV b 0) (row:= #[iV 0,iV 0]) (t:=117) S6 (wn rfl) rfl rfl (iN rfl (Tryz.zeroValue117 _) rfl) ?_;intro b18 zJ kr;refine iP ?_;refine eF (by kernel_rfl) rfl rfl rfl ?_;refine sa 0 kr xD ?_;intro Bh ig;refine zQ ?_;refine je ?_;iterate 8 refine zQ ?_
 by_cases h23:(m.shown n q).1=y.b.ep
 ·iterate 10 refine zQ ?_
  refine dO ao4 (Jc y.A y.c y.b.evs _ (qZ.1.rd ig (memT 9 rfl hL)) hle) ?_;rintro _ IQ ⟨A24,c25,rfl,T28⟩;refine ⟨_,rfl,?_⟩;have qJ:=ig.ext T28 rfl;iterate 10 refine zQ ?_
  refine vv (v:=iV ((F0:Nat):Int)) (zo hF0 (aj rfl rfl (aA Tryz.underlying3 rfl (St.cl 1 qJ rfl rfl)))) ?_;iterate 4 refine zQ ?_
  have sj:=qJ.dM [9,9,9,9,9,9,9];refine fH (X:=Cl×(Option Addr)×Nat×Nat) (fun xv=>[(0,pV kw 0),(1,pV kn 0),(2,iV ((q:Nat):Int)),(6,pV b1 0),(8,.slice A24 ((aV y.b.evs).2.1.length) c25),(10,iV ((xv.2.2.2:Nat):Int))]) (fun xv wr=>(m.recovered n q y.b.evs (aV y.b.evs).2.1 ((List.range y.b.evs.length).drop F0)=xv.1.recovered n q y.b.evs (aV y.b.evs).2.1 ((List.range y.b.evs.length).drop xv.2.2.2))∧(xv.1={ m with aH:=xv.1.aH,shown:=xv.1.shown })∧(xv.1.aH.length+(y.b.evs.length-xv.2.2.2)≤1000000002001)∧St B w0 wr ((.blk kn (aU n X.up (.slice z.tA X.data.length z.tc) X.syn (.slice (aD z.bb 0) 4 4) X.hints X.sure (.slice z.iA z.ix.length z.ic) (z.pv) X.turn) 129)::(.own 42 6 (.slice (aD z.bb 0) 4 4) 4 ((z.bx).flatMap BX.cells))::(.off 169 23 z.iA z.ix.length z.ic ((z.ix).flatMap LX.cells))::(.blk kw (bL (.slice R.nA 5 R.nc) m.off (.slice R.fA R.fx.length R.fc) xv.1.shown (.slice xv.2.1 xv.1.aH.length xv.2.2.1) (.slice R.tA m.aM.length R.tc) m.calls) 121)::(.own 169 23 (.slice R.fA R.fx.length R.fc) R.fx.length ((R.fx).flatMap LX.cells))::(.own 85 14 (.slice xv.2.1 xv.1.aH.length xv.2.2.1) xv.1.aH.length ((xv.1.aH).flatMap eT.cells))::(.own 81 7 (.slice R.tA m.aM.length R.tc) m.aM.length ((m.aM).flatMap fK.cells))::(.bG 4 A24 ((aV y.b.evs).2.1.length) (((aV y.b.evs).2.1).flatMap iK.cells))::(.blk b18 #[iV ((m.shown n q).1),iV ((m.shown n q).2)] 117)::(.blk b1 #[iV y.b.role,iV y.b.ep,iV y.b.fr,iV y.b.tg,iV y.b.rd,.slice y.A y.b.evs.length y.c] 42)::rr)) (fun xv=>y.b.evs.length-xv.2.2.2) (m,R.sA,R.sc,F0) ?_ ?_ ?_
  ·exact ⟨rfl,rfl,(by dsimp only;omega),sj⟩
  ·exact ⟨rfl,rfl,rfl,rfl,rfl,rfl,trivial⟩
  rintro ⟨mm,A9,c9,i9⟩ V4 ⟨E9,vK,Nk,mF⟩
  try dsimp only at E9 vK Nk mF
  refine bq (l':=[(0,pV kw 0),(1,pV kn 0),(2,iV ((q:Nat):Int)),(6,pV b1 0),(8,.slice A24 ((aV y.b.evs).2.1.length) c25),(10,iV ((i9:Nat):Int))]) ⟨rfl,rfl,rfl,rfl,rfl,rfl,trivial⟩ (aW (aW (aO (vm ?_))));iterate 3 refine zQ ?_
  by_cases h35:((i9:Nat):Int)< ((y.b.evs.length:Nat):Int)
  ·iterate 8 refine zQ ?_
   obtain ⟨e,he⟩: ∃ e,y.b.evs[i9]? =some e:=⟨_,List.getElem?_eq_getElem (by omega)⟩;obtain ⟨a,ha⟩: ∃ a,(aV y.b.evs).2.1[i9]? =some a:=⟨_,List.getElem?_eq_getElem (by omega)⟩;have hee:y.b.evs.getD i9 aT=e:=by rw [List.getD_eq_getElem?_getD,he];rfl
   have haa:(aV y.b.evs).2.1.getD i9 gF=a:=by rw [List.getD_eq_getElem?_getD,ha];rfl
   obtain ⟨rb,ro,hra⟩:=La qZ.1 mF (memT 10 rfl hL) (by omega);obtain ⟨sb,so,hsa⟩:=rd_some (St.bG 7 mF rfl) (by omega);have nL:=mF.drew;refine aN 13 nL [5,3] ?_;iterate 6 refine aF ?_
   refine ak (v:=pV rb (ro+i9*6)) 6 rfl (nL.oh [5,3]) (fun _ _=>(bP rfl rfl rfl (mJ i9 hra Tryz.underlying40 jT (by omega) (by omega)))) ?_;iterate 2 refine aF ?_
   refine ak (v:=pV sb (so+i9*4)) 10 rfl (nL.oh [5,3]) (fun _ _=>(bP rfl rfl rfl (mJ i9 hsa Tryz.underlying135 dh (by omega) (by omega)))) ?_;refine dR (n:=2) (r:=7) (s:=11) (by kernel_rfl) ?_ ?_
   ·refine dW (i:=7) rfl rfl (v:= .agg #[iV ((y.b.evs.getD i9 aT).kind),iV ((y.b.evs.getD i9 aT).producer),iV ((y.b.evs.getD i9 aT).id),iV ((y.b.evs.getD i9 aT).body),iV ((y.b.evs.getD i9 aT).aL),iV ((y.b.evs.getD i9 aT).hno)]) (wn rfl) rfl rfl (aj rfl rfl (aG (cs:=Ev.cells (y.b.evs.getD i9 aT)) Tryz.underlying75 rfl jT rfl (fun j u hu=>by rw [Nat.add_assoc];rw [hee] at hu;exact Fx qZ.1 hra nL (memT 10 rfl hL) (bS (enc:=Ev.cells) (sz:=6) (k:=i9) (fun _=>rfl) he hu)))) ?_;refine aF ?_;refine aS 11 ?_;refine dW (i:=11) rfl rfl (v:= .agg #[iV (((aV y.b.evs).2.1.getD i9 gF).code),iV (((aV y.b.evs).2.1.getD i9 gF).gG),iV (((aV y.b.evs).2.1.getD i9 gF).hno),iV (((aV y.b.evs).2.1.getD i9 gF).body)]) (wn rfl) rfl rfl (aj rfl rfl (aG (cs:=iK.cells ((aV y.b.evs).2.1.getD i9 gF)) Tryz.underlying79 rfl dh rfl (fun j u hu=>by rw [Nat.add_assoc];rw [haa] at hu;exact Fw (St.bG 7 nL rfl) hsa (bS (enc:=iK.cells) (sz:=4) (k:=i9) (fun _=>rfl) ha hu)))) ?_;refine aF ?_;refine aS 12 ?_;refine iH 12 rfl EC (lX hn hq hy (y.b.evs.getD i9 aT) ((aV y.b.evs).2.1.getD i9 gF) (-1) nL (by have:=Nk;omega)) ?_;rintro _ Zq ⟨rfl,IU,Xt,aie,acH,oF⟩;refine ⟨_,rfl,?_⟩;iterate 2 refine aF ?_
    iterate 4 refine zQ ?_
    refine vv (v:=iV ((i9+1:Nat):Int)) jv ?_;iterate 2 refine zQ ?_
    obtain ⟨XZ,Iy⟩: ∃ k,k=mm.tell n q (y.b.evs.getD i9 aT) ((aV y.b.evs).2.1.getD i9 gF) (-1):=⟨_,rfl⟩;have hmb:(mm.av n).bs q=y.b:=by rw [congrArg Cl.av vK,hX];exact hyb.symm
    have t1:XZ.aH=aie:=by rw [acH,Iy];show mm.aH++[_]=_;rw [hmb]
    have t2:XZ.shown=ni mm.shown n q (y.b.ep,(y.b.evs.length:Int)):=by rw [Iy];show ni _ _ _ _=_;rw [hmb]
    have t3:XZ.aH.length=mm.aH.length+1:=by rw [t1,acH,List.length_append];rfl
    rw [←t1,←t2] at oF;refine bY (XZ,IU,Xt,i9+1) ?_ ⟨rfl,rfl,rfl,rfl,rfl,rfl,trivial⟩ (by first | omega | (dsimp only;omega));exact ⟨(by dsimp only;rw [E9,lT (by omega),Cl.recovered,←Iy]),(by dsimp only;rw [Iy];exact KD vK),(by dsimp only;omega),oF⟩
   refine dW (i:=11) rfl rfl (v:= .agg #[iV (((aV y.b.evs).2.1.getD i9 gF).code),iV (((aV y.b.evs).2.1.getD i9 gF).gG),iV (((aV y.b.evs).2.1.getD i9 gF).hno),iV (((aV y.b.evs).2.1.getD i9 gF).body)]) (wn rfl) rfl rfl (aj rfl rfl (aG (cs:=iK.cells ((aV y.b.evs).2.1.getD i9 gF)) Tryz.underlying79 rfl dh rfl (fun j u hu=>by rw [Nat.add_assoc];rw [haa] at hu;exact Fw (St.bG 7 nL rfl) hsa (bS (enc:=iK.cells) (sz:=4) (k:=i9) (fun _=>rfl) ha hu)))) ?_;refine aF ?_;refine aS 7 ?_;refine dW (i:=7) rfl rfl (v:= .agg #[iV ((y.b.evs.getD i9 aT).kind),iV ((y.b.evs.getD i9 aT).producer),iV ((y.b.evs.getD i9 aT).id),iV ((y.b.evs.getD i9 aT).body),iV ((y.b.evs.getD i9 aT).aL),iV ((y.b.evs.getD i9 aT).hno)]) (wn rfl) rfl rfl (aj rfl rfl (aG (cs:=Ev.cells (y.b.evs.getD i9 aT)) Tryz.underlying75 rfl jT rfl (fun j u hu=>by rw [Nat.add_assoc];rw [hee] at hu;exact Fx qZ.1 hra nL (memT 10 rfl hL) (bS (enc:=Ev.cells) (sz:=6) (k:=i9) (fun _=>rfl) he hu)))) ?_;refine aF ?_;refine aS 12 ?_;refine iH 12 rfl EC (lX hn hq hy (y.b.evs.getD i9 aT) ((aV y.b.evs).2.1.getD i9 gF) (-1) nL (by have:=Nk;omega)) ?_;rintro _ w57 ⟨rfl,A53,c54,awq,an3,yU⟩;refine ⟨_,rfl,?_⟩;iterate 2 refine aF ?_
   iterate 4 refine zQ ?_
   refine vv (v:=iV ((i9+1:Nat):Int)) jv ?_;iterate 2 refine zQ ?_
   obtain ⟨XZ,Iy⟩: ∃ k,k=mm.tell n q (y.b.evs.getD i9 aT) ((aV y.b.evs).2.1.getD i9 gF) (-1):=⟨_,rfl⟩;have hmb:(mm.av n).bs q=y.b:=by rw [congrArg Cl.av vK,hX];exact hyb.symm
   have t1:XZ.aH=awq:=by rw [an3,Iy];show mm.aH++[_]=_;rw [hmb]
   have t2:XZ.shown=ni mm.shown n q (y.b.ep,(y.b.evs.length:Int)):=by rw [Iy];show ni _ _ _ _=_;rw [hmb]
   have t3:XZ.aH.length=mm.aH.length+1:=by rw [t1,an3,List.length_append];rfl
   rw [←t1,←t2] at yU;refine bY (XZ,A53,c54,i9+1) ?_ ⟨rfl,rfl,rfl,rfl,rfl,rfl,trivial⟩ (by first | omega | (dsimp only;omega));exact ⟨(by dsimp only;rw [E9,lT (by omega),Cl.recovered,←Iy]),(by dsimp only;rw [Iy];exact KD vK),(by dsimp only;omega),yU⟩
  iterate 9 refine zQ ?_
  have oZ:m.recover n q={ m with aH:=mm.aH,shown:=mm.shown }:=by rw [Qc (b:=y.b) (by rw [hX];exact hyb.symm) (by first | assumption | omega) hF0,E9,List.drop_eq_nil_of_le (by rw [List.length_range];omega),Cl.recovered];exact vK
  rw [oZ];exact ⟨rfl,Wd.dw (X':=X) (z':=z) (Ls:=[.bG 4 A24 ((aV y.b.evs).2.1.length) (((aV y.b.evs).2.1).flatMap iK.cells),.blk b18 #[iV ((m.shown n q).1),iV ((m.shown n q).2)] 117,.blk b1 #[iV y.b.role,iV y.b.ep,iV y.b.fr,iV y.b.tg,iV y.b.rd,.slice y.A y.b.evs.length y.c] 42]) (fA:=R.fA) (fc:=R.fc) (fx:=R.fx) (sA:=A9) (sc:=c9) (tA:=R.tA) (tc:=R.tc) hkn bR hrr G hn mF NG.more (fun u hu=> .inl hu) (aQ hX).symm G.fly.symm mI⟩
 iterate 9 refine zQ ?_
 refine vv (v:= .agg #[iV 4,iV 0,iV 0,iV 0,iV 0,iV 0]) gZ ?_;refine zQ ?_;have uQ:=ig.dM [8,8,8,8,8,8,8];refine dO EC (lX hn hq hy bU gF (-1) uQ (by omega)) ?_;rintro _ GZ ⟨rfl,A60,c61,aDo,awr,xV⟩;refine ⟨_,rfl,?_⟩;refine zQ ?_;refine bN (l':=[]) trivial (gJ (nJ (fZ (dI (rs:=[]) (vs:=[]) rfl trivial ?_))));subst awr;have oZ:m.recover n q={ m with aH:=m.aH++[⟨n,q,y.b.ep,bU,gF,-1⟩],shown:=ni m.shown n q (y.b.ep,(y.b.evs.length:Int)) }:=Qb (b:=y.b) (by rw [hX];exact hyb.symm) (by assumption);rw [oZ];exact ⟨rfl,Wd.dw (X':=X) (z':=z) (Ls:=[.blk b18 #[iV ((m.shown n q).1),iV ((m.shown n q).2)] 117,.blk b1 #[iV y.b.role,iV y.b.ep,iV y.b.fr,iV y.b.tg,iV y.b.rd,.slice y.A y.b.evs.length y.c] 42]) (fA:=R.fA) (fc:=R.fc) (fx:=R.fx) (sA:=A60) (sc:=c61) (tA:=R.tA) (tc:=R.tc) hkn bR hrr G hn xV NG.more (fun u hu=> .inl hu) (aQ hX).symm G.fly.symm mI⟩
theorem St.aqk {B:Nat} {w0 w:World} {a:Fact} {fs N:List Fact} (S:St B w0 w (a::(fs++N))):St B w0 w (a::fs):=S.sub ((List.sublist_append_left fs N).cons_cons a)
theorem C9 {B kb n turn dc:Nat} {up:Bool} {dA:Option Addr} {data:List UInt8} {syn:Int} {Hh:Nat→Pl} {Us:Nat→Bool} {bv iv pv:Value} {w0 w:World} {fs:List Fact} {L:List Fact} {rs:List dx} {RA:Option Addr} {rc:Nat} (hrs:Ro fs 10 RA rs.length (rs.flatMap dx.cells)) (htp:Ro L 1 dA data.length (byteCells data)) (hL: ∀ f∈L,f∈fs) (hrl:rs.length≤1000000) (S:St B w0 w ((.blk kb (aU n up (.slice dA data.length dc) syn (bv) Hh Us (iv) (pv) turn) 129)::fs)):
    Calls Tryz.prog 96 #[pV kb 0,.slice RA rs.length rc] w (fun e w'=>(eD data syn rs=none∧e= .returned (.bool false)∧St B w0 w' ((.blk kb (aU n up (.slice dA data.length dc) syn (bv) Hh Us (iv) (pv) turn) 129)::fs))∨ ∃ d' A' c' N,eD data syn rs=some d'∧e= .returned (.bool true)∧Ro (L++N) 1 A' d'.length (byteCells d')∧St B w0 w' ((.blk kb (aU n up (.slice A' d'.length c') syn (bv) Hh Us (iv) (pv) turn) 129)::(fs++N))):=by
 refine fE 34 Tryz.func96 ?_;refine cw [0,1] ?_;iterate 10 refine zQ ?_
 refine vv (aj rfl rfl (aG (cs:=[.slice dA data.length dc,iV syn]) Tryz.underlying125 rfl dX rfl (St.rg 0 S rfl (qy)))) ?_;refine eU S wZ ?_;intro b1 w2 S3;refine sa 0 S3 dX ?_;intro w4 S5;iterate 11 refine zQ ?_
 refine fH (X:=Nat×(Option Addr)×Nat×(List UInt8)×(List Fact)) (fun xv=>[(0,pV kb 0),(5,pV b1 0),(14,.slice RA rs.length rc),(15,iV ((rs.length:Nat):Int)),(16,iV ((xv.1:Nat):Int))]) (fun xv wr=>(xv.1≤rs.length)∧(eD data syn rs=eD xv.2.2.2.1 syn (rs.drop xv.1))∧(Ro (L++xv.2.2.2.2) 1 xv.2.1 xv.2.2.2.1.length (byteCells xv.2.2.2.1))∧St B w0 wr ((.blk b1 #[.slice xv.2.1 xv.2.2.2.1.length xv.2.2.1,iV syn] 125)::(.blk kb (aU n up (.slice dA data.length dc) syn (bv) Hh Us (iv) (pv) turn) 129)::(fs++xv.2.2.2.2))) (fun xv=>rs.length-xv.1) (0,dA,dc,data,[]) ?_ ?_ ?_
 ·exact ⟨Nat.zero_le _,rfl,by rw [List.append_nil];exact htp,by rw [List.append_nil];exact S5⟩
 ·exact ⟨rfl,rfl,rfl,rfl,rfl,trivial⟩
 rintro ⟨k,A1,c1,d1,N1⟩ w6 ⟨yg,hi9,l8,S7⟩
 try dsimp only at yg hi9 l8 S7
 refine bq (l':=[(0,pV kb 0),(5,pV b1 0),(14,.slice RA rs.length rc),(15,iV ((rs.length:Nat):Int)),(16,iV ((k:Nat):Int))]) ⟨rfl,rfl,rfl,rfl,rfl,trivial⟩ (aW (aO ?_));by_cases h11:((k:Nat):Int)< ((rs.length:Nat):Int)
 ·iterate 10 refine zQ ?_
  obtain ⟨x,hx⟩: ∃ x,rs[k]? =some x:=⟨_,List.getElem?_eq_getElem (by omega)⟩;refine zQ ?_;obtain ⟨rb,ro,hra,_,hrc⟩:=(hrs.rd S7 (memT 2 rfl (fun f hf=>List.mem_append_left _ hf))).2 (by omega);subst hra;refine vv (gM k) ?_;refine vv (v:= .agg #[iV x.kind,iV x.queue,iV x.epoch,iV x.peer,iV x.ev.kind,iV x.ev.producer,iV x.ev.id,iV x.ev.body,iV x.ev.aL,iV x.ev.hno]) (aj rfl rfl (aG (cs:=dx.cells x) Tryz.underlying205 rfl jG rfl (fun j u hu=>by rw [Nat.add_assoc];exact hrc (k*10+j) u (bS (enc:=dx.cells) (sz:=10) (fun _=>rfl) hx hu)))) ?_;refine eU S7 uW ?_;intro b12 CG jH;refine stA 0 jH jG ?_;intro FR jR;iterate 6 refine zQ ?_
  refine dO aga (yI (Ea A1 d1.length c1 d1 syn x _ (l8.rd jR (memT 3 rfl (Rq hL))))) ?_;rintro _ zJ ⟨IW,c18,rfl,T21⟩;refine ⟨_,rfl,?_⟩;have kr:=jR.ext T21 rfl;iterate 3 refine zQ ?_
  refine eU kr wZ ?_;intro NR JZ jB;refine stA 0 jB dX ?_;intro w25 kD;iterate 7 refine zQ ?_
  by_cases h27:(iF d1 syn x).2.2=0
  ·have hsy:=Z5 h27;rw [hsy] at kD;iterate 8 refine zQ ?_
   refine stA 3 kD dX ?_;intro VN sj;iterate 4 refine zQ ?_
   refine vv (v:=iV ((k+1:Nat):Int)) jv ?_;iterate 2 refine zQ ?_
   have tF:=sj.aR [2,0];have mF:=tF.dM [2,2];have pE:St B w0 VN (_::_::((fs++N1)++[.bG 1 IW ((iF d1 syn x).1.length) (byteCells ((iF d1 syn x).1))])):=mF.toEnd 2 rfl;have qY:=pE;rw [List.append_assoc] at qY;refine bY (k+1,IW,c18,(iF d1 syn x).1,N1++[.bG 1 IW ((iF d1 syn x).1.length) (byteCells ((iF d1 syn x).1))]) ?_ ⟨rfl,rfl,rfl,rfl,rfl,trivial⟩ (by first | omega | (dsimp only;omega));exact ⟨(by dsimp only;omega),(by dsimp only;rw [hi9,Fq hx,if_neg (fun h=>h h27)]),(Ro.bG Z4),qY⟩
  iterate 17 refine zQ ?_
  have oD:=kD.aR [3,2,1,0];exact .inl ⟨by rw [hi9,Fq hx,if_pos h27],rfl,oD.aqk⟩
 iterate 16 refine zQ ?_
 refine iU (row':=aU n up (.slice A1 d1.length c1) syn (bv) Hh Us (iv) (pv) turn) 1 S7 dX ?_;intro VO nL;refine zQ ?_;refine bN (l':=[]) trivial (gJ (aW (aO (va ?_))));iterate 4 refine zQ ?_
 have qN:=nL.aR [0];exact .inr ⟨d1,A1,c1,N1,by rw [hi9,List.drop_eq_nil_of_le (by omega)];rfl,rfl,l8,qN⟩
theorem Et (w:World):(Instr.makeSlice 43 (iV 4) (iV 4)).run Tryz.prog w= .ok (.slice (aD w.heap.size 0) 4 4) (w.alloc (.cells (qW.flatMap BX.cells).toArray 42)):=by
 obtain ⟨i0,hi0,hz0,hz1,hz2⟩:=info_parts (P:=Tryz.prog) (e:=42) (z:= .agg #[iV 0,iV 0,iV 0,iV 0,iV 0,.slice none 0 0]) (size:=6) (bytes:=64) (by kernel_rfl);have:=run_makeSlice (P:=Tryz.prog) w 43 42 i0 _ Tryz.underlying43 hi0 hz0 .i64 .i64 4 4 (by omega) (by omega) (by rw [hz1];decide) (by rw [hz2];omega) (by omega);rw [this,hz1];rw [show madeCells (Value.agg #[iV 0,iV 0,iV 0,iV 0,iV 0,.slice none 0 0]).cells ((4:Int).toNat*6)=(qW.flatMap BX.cells).toArray from by kernel_rfl];rfl
theorem abD: ∀ y∈qW,y.b.evs.length≤y.c∧y.b.evs.length≤0:=by
 intro y hy;simp [qW] at hy;subst hy;exact ⟨Nat.le_refl _,Nat.le_refl _⟩
theorem aah {bs:List BX} {k q:Nat} {z:BX} (h: ∀ y∈bs,y.b.evs.length≤y.c∧y.b.evs.length≤k) (h1:z.b.evs.length≤z.c) (h2:z.b.evs.length≤k+1): ∀ y∈bs.set q z,y.b.evs.length≤y.c∧y.b.evs.length≤k+1:=by
 intro y hy
 rcases List.mem_or_eq_of_mem_set hy with h3 | h3
 ·exact ⟨(h y h3).1,Nat.le_succ_of_le (h y h3).2⟩
 rw [h3];exact ⟨h1,h2⟩
theorem X0 (A:Option Addr) (c:Nat) (l:List dx) (w:World) (h:Rd w w.heap.size 10 A l.length (l.flatMap dx.cells)) (hb:l.length*80≤reachBytes):
    Calls Tryz.prog 78 #[.slice A l.length c] w (akW w (allM l)):=by
 have S:=(St.start w).bH h;have hb2:=hb;unfold reachBytes at hb2;refine fE 46 Tryz.func78 ?_;refine cw [0] ?_;iterate 9 refine zQ ?_
 refine rX (V:=fun b=> .slice (aD b 0) 4 4) (row:=(qW.flatMap BX.cells).toArray) (t:=42) (n:=4) (s:=6) (xs:=qW.flatMap BX.cells) S (wn rfl) rfl rfl (D9 rfl rfl rfl (Et _)) rfl (by decide) rfl ?_;intro b1 w2 S3;iterate 12 refine zQ ?_
 have S4:=afj S3;refine fH (X:=Nat×(List BX)) (fun xv=>[(2,.slice none 0 0),(3,iV 0),(4,iV 0),(5,.slice (aD b1 0) 4 4),(12,.slice A l.length c),(13,iV ((l.length:Nat):Int)),(14,iV ((xv.1:Nat):Int))]) (fun xv wr=>(xv.1≤l.length)∧(allM l=mG (l.drop xv.1) xv.1 (xv.2.map BX.b))∧(xv.2.length=4)∧(∀ y∈xv.2,y.b.evs.length≤y.c∧y.b.evs.length≤xv.1)∧St w.heap.size w wr ((.own 42 6 (.slice (aD b1 0) 4 4) 4 ((xv.2).flatMap BX.cells))::(.rd 10 A l.length ((l).flatMap dx.cells))::dU xv.2)) (fun xv=>l.length-xv.1) (0,qW) ?_ ?_ ?_
 ·exact ⟨Nat.zero_le _,rfl,rfl,abD,S4⟩
 ·exact ⟨rfl,rfl,rfl,rfl,rfl,rfl,rfl,trivial⟩
 rintro ⟨k,bs⟩ w5 ⟨KA,yg,hi9,l8,S6⟩
 try dsimp only at KA yg hi9 l8 S6
 refine bq (l':=[(2,.slice none 0 0),(3,iV 0),(4,iV 0),(5,.slice (aD b1 0) 4 4),(12,.slice A l.length c),(13,iV ((l.length:Nat):Int)),(14,iV ((k:Nat):Int))]) ⟨rfl,rfl,rfl,rfl,rfl,rfl,rfl,trivial⟩ (aW (aO ?_));by_cases h11:((k:Nat):Int)< ((l.length:Nat):Int)
 ·iterate 12 refine zQ ?_
  obtain ⟨b12,o13,rfl⟩:=Rd.addr (St.rd 1 S6 rfl) (by omega);obtain ⟨vX,RD⟩:=FK k (St.rd 1 S6 rfl) (by omega);refine vv (gM k) ?_;refine vv (aj rfl rfl (aG (cs:=dx.cells vX) Tryz.underlying205 rfl jG rfl (Rd.uN (St.rd 1 S6 rfl) (fun _ _ h=>bS (enc:=dx.cells) (sz:=10) (fun _=>rfl) RD h)))) ?_;refine eU S6 uW ?_;intro b16 JR iD;refine zQ ?_;refine stA 0 iD jG ?_;intro zJ kr;iterate 6 refine zQ ?_
  refine cab zR kr (gu vX _) ?_;intro Bh ig;iterate 6 refine zQ ?_
  by_cases Me:aP vX=0
  ·iterate 7 refine zQ ?_
   have hrz:=qo Me;have hq4:vX.queue.toNat<4:=by omega
   obtain ⟨y,hy⟩: ∃ y,bs[vX.queue.toNat]? =some y:=⟨_,List.getElem?_eq_getElem (by omega)⟩;have qZ:=l8 y (List.mem_of_getElem? hy);obtain ⟨R,hR⟩: ∃ R,dN y.b vX=R:=⟨_,rfl⟩;have hap:dN (Fj (bs.map BX.b) vX.queue) vX=R:=by rw [afi hy];exact hR
   have hal:=Xe (b:=y.b) (r:=vX);rw [hR] at hal;have HP:=fun w h=>PX y.b.role y.b.ep y.b.fr y.b.tg y.b.rd y.A y.c y.b.evs vX.kind vX.queue vX.epoch vX.peer vX.ev qZ.1 w h (by unfold reachBytes;omega)
   rw [show dN ⟨y.b.role,y.b.ep,y.b.fr,y.b.tg,y.b.rd,y.b.evs⟩ ⟨vX.kind,vX.queue,vX.epoch,vX.peer,vX.ev⟩=R from hR] at HP;have iX:=ig.drew;refine aN 13 iX [] ?_;iterate 3 refine aF ?_
   refine ak 3 rfl iX (fun _ _=>gM vX.queue.toNat) ?_;refine ak (v:= .agg #[iV y.b.role,iV y.b.ep,iV y.b.fr,iV y.b.tg,iV y.b.rd,.slice y.A y.b.evs.length y.c]) 4 rfl iX (fun _ Xr=>(aj rfl rfl (aG (cs:=BX.cells y) Tryz.underlying42 rfl aC rfl (Rd.uN (St.ord 1 Xr rfl) (fun _ _ h=>bS (enc:=BX.cells) (sz:=6) (fun _=>rfl) hy h))))) ?_;refine aF ?_;refine dR (n:=6) (r:=6) (s:=10) (by kernel_rfl) ?_ ?_
   ·refine iH 6 rfl af9 (HP _ (ZU (pre:=[_,_,_]) iX hy)) ?_;rintro _ VO ⟨A32,c33,alg,rfl,T37⟩;refine ⟨_,rfl,?_⟩;have nL:=iX.ext T37 rfl;iterate 4 refine aF ?_
    refine aS 10 ?_;refine jk 10 rfl nL dK ?_;intro b41 Ux tu;refine aF ?_;refine aS 11 ?_;refine Zp 11 rfl 0 tu aC ?_;intro L9 mW;iterate 3 refine aF ?_
    iterate 5 refine zQ ?_
    by_cases h47:R.2=0
    ·iterate 11 refine zQ ?_
     refine vv (gM vX.queue.toNat) ?_;refine kJ (xs':=(bs.set vX.queue.toNat ⟨R.1,A32,c33⟩).flatMap BX.cells) 3 mW (wn rfl) rfl rfl rfl rfl rfl rfl aC rfl (bZ rfl) (by omega) (by rw [Nat.zero_add];exact oI (enc:=BX.cells) (sz:=6) (fun _=>rfl) ⟨R.1,A32,c33⟩ _ bs (by omega)) ?_;intro UE sD;iterate 4 refine zQ ?_
     refine vv (v:=iV ((k+1:Nat):Int)) jv ?_;iterate 2 refine zQ ?_
     have rO:=sD.aR [2,0];have sw:=rO.dM [0,2,2];have oF:=ZV (pre:=[_,_]) (z:=⟨R.1,A32,c33⟩) (k:=vX.queue.toNat) sw (by omega);refine bY (k+1,bs.set vX.queue.toNat ⟨R.1,A32,c33⟩) ?_ ⟨rfl,rfl,rfl,rfl,rfl,rfl,rfl,trivial⟩ (by first | omega | (dsimp only;omega));exact ⟨(by dsimp only;omega),(by dsimp only;rw [yg,Ol RD Me hap h47,List.map_set]),(by dsimp only;rw [List.length_set];exact hi9),(aah l8 alg (Nat.le_trans hal (Nat.succ_le_succ qZ.2))),oF⟩
    iterate 21 refine zQ ?_
    rw [show allM l=_ from yg.trans (UW RD Me hap h47)];exact ⟨fun _=>⟨rfl,mW.low⟩,fun T h=>(by cases h)⟩
   refine jk 10 rfl iX dK ?_;intro b53 w54 xk;refine aF ?_;refine aS 6 ?_;refine iH 6 rfl af9 (HP _ (ZU (pre:=[_,_,_,_]) xk hy)) ?_;rintro _ w59 ⟨A56,c57,alh,rfl,T61⟩;refine ⟨_,rfl,?_⟩;have Qt:=xk.ext T61 rfl;iterate 4 refine aF ?_
   refine aS 11 ?_;refine Zp 11 rfl 1 Qt aC ?_;intro w65 Bj;iterate 3 refine aF ?_
   iterate 5 refine zQ ?_
   by_cases h68:R.2=0
   ·iterate 11 refine zQ ?_
    refine vv (gM vX.queue.toNat) ?_;refine kJ (xs':=(bs.set vX.queue.toNat ⟨R.1,A56,c57⟩).flatMap BX.cells) 3 Bj (wn rfl) rfl rfl rfl rfl rfl rfl aC rfl (bZ rfl) (by omega) (by rw [Nat.zero_add];exact oI (enc:=BX.cells) (sz:=6) (fun _=>rfl) ⟨R.1,A56,c57⟩ _ bs (by omega)) ?_;intro ZN lu;iterate 4 refine zQ ?_
    refine vv (v:=iV ((k+1:Nat):Int)) jv ?_;iterate 2 refine zQ ?_
    have qh:=lu.aR [2,1];have Cz:=qh.dM [0,2,2];have qL:=ZV (pre:=[_,_]) (z:=⟨R.1,A56,c57⟩) (k:=vX.queue.toNat) Cz (by omega);refine bY (k+1,bs.set vX.queue.toNat ⟨R.1,A56,c57⟩) ?_ ⟨rfl,rfl,rfl,rfl,rfl,rfl,rfl,trivial⟩ (by first | omega | (dsimp only;omega));exact ⟨(by dsimp only;omega),(by dsimp only;rw [yg,Ol RD Me hap h68,List.map_set]),(by dsimp only;rw [List.length_set];exact hi9),(aah l8 alh (Nat.le_trans hal (Nat.succ_le_succ qZ.2))),qL⟩
   iterate 21 refine zQ ?_
   rw [show allM l=_ from yg.trans (UW RD Me hap h68)];exact ⟨fun _=>⟨rfl,Bj.low⟩,fun T h=>(by cases h)⟩
  iterate 21 refine zQ ?_
  rw [show allM l=_ from yg.trans (aff RD Me)];exact ⟨fun _=>⟨rfl,ig.low⟩,fun T h=>(by cases h)⟩
 iterate 20 refine zQ ?_
 have JM:=S6.aR [1];rw [show allM l=_ from yg.trans (afg (by omega))];exact ⟨fun h=>(by cases h),fun T h=>(by cases h;exact ⟨b1,bs,rfl,hi9,fun y hy=>(l8 y hy).1,rfl,JM⟩)⟩
theorem Gu (bs:List BX):(dU bs).all Fact.Ew=true:=by
 unfold dU;rw [List.all_map];exact List.all_eq_true.2 fun _ _=>rfl
theorem Eu (A:Option Addr) (c:Nat) (l:List UInt8) (s:Int) (w:World) (h:Rd w w.heap.size 1 A l.length (byteCells l)) {TT:List bO} (hT:Ad l s=some TT) (hb:(sK (jf l s).1 (jf l s).2.1).1.length*80≤reachBytes):
    Calls Tryz.prog 48 #[.agg #[.slice A l.length c,iV s]] w (fun e w'=> ∃ A2 c2 b bs,bs.map BX.b=TT∧bs.length=4∧(∀ y∈bs,y.b.evs.length≤y.c)∧e= .returned (.tuple #[.agg #[.slice A2 (jf l s).1.length c2,iV (jf l s).2.1],.slice (aD b 0) 4 4])∧St w.heap.size w w' (.own 42 6 (.slice (aD b 0) 4 4) 4 (bs.flatMap BX.cells):: .bG 1 A2 (jf l s).1.length (byteCells (jf l s).1)::dU bs)):=by
 have S:=(St.start w).bH h;unfold Ad at hT;have HR:=fun w h=>Mi A c l s w h
 obtain ⟨P1,hP1⟩: ∃ r,jf l s=r:=⟨_,rfl⟩;rw [hP1] at hT hb HR⊢;have HD:=fun A c w h=>AB A c P1.1 P1.2.1 w h
 obtain ⟨P2,hP2⟩: ∃ r,sK P1.1 P1.2.1=r:=⟨_,rfl⟩;rw [hP2] at hT hb HD;refine fE 31 Tryz.func48 ?_;refine cw [0] ?_;iterate 2 refine zQ ?_
 refine gD S ?_;intro b1 w2 S3;refine eU S3 wZ ?_;intro b4 w5 S6;iterate 6 refine zQ ?_
 refine dO asI (HR _ (St.rd 2 S6 rfl)) ?_;rintro _ w9 ⟨A7,c8,rfl,T11⟩;refine ⟨_,rfl,?_⟩;have jE:=S6.ext T11 rfl;iterate 3 refine zQ ?_
 refine eU jE wZ ?_;intro b12 CG jH;refine sa 0 jH dX ?_;intro FR jR;iterate 6 refine zQ ?_
 refine dO ahh (HD A7 c8 _ (St.bG 1 jR rfl)) ?_;rintro _ zJ ⟨IW,c18,rfl,T21⟩;refine ⟨_,rfl,?_⟩;have kr:=jR.ext T21 rfl;iterate 12 refine zQ ?_
 refine dO asJ (((X0 IW c18 P2.1 _ (St.ord 0 kr rfl) hb).mono fun _ _ h=>h.2 TT hT)) ?_;rintro _ JZ ⟨NR,bs,hm,hl,hcc,rfl,T26⟩;refine ⟨_,rfl,?_⟩;have jB:=kr.ext T26 (by simp [Gu,Fact.Ew]);have iX:St _ _ JZ ((.own 42 6 (.slice (aD NR 0) 4 4) 4 ((bs).flatMap BX.cells))::(.own 205 10 (.slice IW P2.1.length c18) P2.1.length ((P2.1).flatMap dx.cells))::(.blk b12 #[.slice A7 P1.1.length c8,iV P1.2.1] 125)::(.bG 1 A7 P1.1.length (byteCells P1.1))::(.blk b4 #[.slice none 0 0,iV 0] 125)::(.blk b1 #[.slice A l.length c,iV s] 125)::(.rd 1 A l.length (byteCells l))::dU bs):=St.perm jB (List.Perm.cons _ (List.perm_append_comm (l₁:=dU bs)));clear kr;iterate 13 refine zQ ?_
 refine stA 4 iX dX ?_;intro JV qM;iterate 5 refine zQ ?_
 have sj:=qM.aR [6,5,4,2,1];exact ⟨A7,c8,NR,bs,hm,hl,hcc,rfl,sj⟩
theorem lY {B kn n turn:Nat} {up:Bool} {tv bv iv pv:Value} {syn:Int} {Hh:Nat→Pl} {Us:Nat→Bool} {w0 w:World} {fs:List Fact} (S:St B w0 w ((.blk kn (aU n up (tv) syn (bv) Hh Us (iv) (pv) turn) 129)::fs)) (hu:Uk B w0):
    Calls Tryz.prog 67 #[pV kn 0] w (fun e w'=>e= .returned (.tuple #[])∧ ∃ bb:Nat,St B w0 w' ((.blk kn (aU n up (tv) syn (.slice (aD bb 0) 4 4) (fun _=>nowhere) (fun _=>false) (.slice none 0 0) (.nilFunc) turn) 129):: .own 42 6 (.slice (aD bb 0) 4 4) 4 (qW.flatMap BX.cells)::fs)):=by
 refine fE 27 Tryz.func67 ?_;refine cw [0] ?_;iterate 3 refine zQ ?_
 refine rX (V:=fun b=> .slice (aD b 0) 4 4) (row:=(qW.flatMap BX.cells).toArray) (t:=42) (n:=4) (s:=6) (xs:=qW.flatMap BX.cells) S (wn rfl) rfl rfl (D9 rfl rfl rfl (Et _)) rfl (by decide) rfl ?_;intro b1 w2 S3;iterate 2 refine zQ ?_
 refine iU (row':=aU n up (tv) syn (.slice (aD b1 0) 4 4) Hh Us (iv) (pv) turn) 1 S3 Yz ?_;intro w4 S5;refine zQ ?_;iterate 3 refine zQ ?_
 refine zQ ?_;refine vv (v:= .agg #[.bool false,.bool false,.bool false,.bool false]) yz ?_;refine zQ ?_;refine zQ ?_;refine iU (row':=aU n up (tv) syn (.slice (aD b1 0) 4 4) Hh (fun _=>false) (iv) (pv) turn) 1 S5 Zh ?_;intro w6 S7;iterate 9 refine zQ ?_
 refine JA (kZ (aW (aO (vv zS ?_))));iterate 14 refine zQ ?_
 have S8:=S7.drew;refine aN 7 S8 [1] ?_;iterate 2 refine aF ?_
 refine ak (v:= .agg #[iV (-1),iV 0]) 2 rfl (St.del 1 S8) (fun _ awt=>(aj rfl rfl (aG (cs:=[iV (-1),iV 0]) Tryz.underlying30 rfl iJ rfl (Uk.rg hu awt)))) ?_;iterate 2 refine aF ?_
 refine ak (v:=pV kn (5+0*2)) 5 rfl (St.del 1 S8) (fun _ _=>(bP rfl rfl rfl (eu 0 Tryz.underlying31 iJ rfl (by decide)))) ?_;refine aS 6 ?_;refine rY (i:=6) rfl rfl (cs:= #[iV (-1),iV 0]) (row':=aU n up (tv) syn (.slice (aD b1 0) 4 4) (upd Hh 0 (⟨-1,0⟩:Pl)) (fun _=>false) (iv) (pv) turn) (fs':=(_::(.blk kn (aU n up (tv) syn (.slice (aD b1 0) 4 4) (upd Hh 0 (⟨-1,0⟩:Pl)) (fun _=>false) (iv) (pv) turn) 129)::fs)) 1 S8 (wn rfl) rfl rfl rfl rfl rfl rfl iJ rfl (bZ rfl) (by rw [show Array.size (aU _ _ _ _ _ _ _ _ _ _)=20 from rfl];omega) (Bq (by decide) (p:=(⟨-1,0⟩:Pl))) rfl ?_;intro FR jR;iterate 2 refine aF ?_
 iterate 3 refine zQ ?_
 refine vv (v:=iV 1) jv ?_;iterate 2 refine zQ ?_
 refine nZ (kZ (aW (aO (vv zS ?_))));iterate 14 refine zQ ?_
 have kT:=jR.drew;refine aN 7 kT [1] ?_;iterate 2 refine aF ?_
 refine ak (v:= .agg #[iV (-1),iV 0]) 2 rfl (St.del 1 kT) (fun _ XR=>(aj rfl rfl (aG (cs:=[iV (-1),iV 0]) Tryz.underlying30 rfl iJ rfl (Uk.rg hu XR)))) ?_;iterate 2 refine aF ?_
 refine ak (v:=pV kn (5+1*2)) 5 rfl (St.del 1 kT) (fun _ _=>(bP rfl rfl rfl (eu 1 Tryz.underlying31 iJ rfl (by decide)))) ?_;refine aS 6 ?_;refine rY (i:=6) rfl rfl (cs:= #[iV (-1),iV 0]) (row':=aU n up (tv) syn (.slice (aD b1 0) 4 4) (upd (upd Hh 0 (⟨-1,0⟩:Pl)) 1 (⟨-1,0⟩:Pl)) (fun _=>false) (iv) (pv) turn) (fs':=(_::(.blk kn (aU n up (tv) syn (.slice (aD b1 0) 4 4) (upd (upd Hh 0 (⟨-1,0⟩:Pl)) 1 (⟨-1,0⟩:Pl)) (fun _=>false) (iv) (pv) turn) 129)::fs)) 1 kT (wn rfl) rfl rfl rfl rfl rfl rfl iJ rfl (bZ rfl) (by rw [show Array.size (aU _ _ _ _ _ _ _ _ _ _)=20 from rfl];omega) (Bq (by decide) (p:=(⟨-1,0⟩:Pl))) rfl ?_;intro JU iX;iterate 2 refine aF ?_
 iterate 3 refine zQ ?_
 refine vv (v:=iV 2) jv ?_;iterate 2 refine zQ ?_
 refine nZ (kZ (aW (aO (vv zS ?_))));iterate 14 refine zQ ?_
 have kD:=iX.drew;refine aN 7 kD [1] ?_;iterate 2 refine aF ?_
 refine ak (v:= .agg #[iV (-1),iV 0]) 2 rfl (St.del 1 kD) (fun _ aiy=>(aj rfl rfl (aG (cs:=[iV (-1),iV 0]) Tryz.underlying30 rfl iJ rfl (Uk.rg hu aiy)))) ?_;iterate 2 refine aF ?_
 refine ak (v:=pV kn (5+2*2)) 5 rfl (St.del 1 kD) (fun _ _=>(bP rfl rfl rfl (eu 2 Tryz.underlying31 iJ rfl (by decide)))) ?_;refine aS 6 ?_;refine rY (i:=6) rfl rfl (cs:= #[iV (-1),iV 0]) (row':=aU n up (tv) syn (.slice (aD b1 0) 4 4) (upd (upd (upd Hh 0 (⟨-1,0⟩:Pl)) 1 (⟨-1,0⟩:Pl)) 2 (⟨-1,0⟩:Pl)) (fun _=>false) (iv) (pv) turn) (fs':=(_::(.blk kn (aU n up (tv) syn (.slice (aD b1 0) 4 4) (upd (upd (upd Hh 0 (⟨-1,0⟩:Pl)) 1 (⟨-1,0⟩:Pl)) 2 (⟨-1,0⟩:Pl)) (fun _=>false) (iv) (pv) turn) 129)::fs)) 1 kD (wn rfl) rfl rfl rfl rfl rfl rfl iJ rfl (bZ rfl) (by rw [show Array.size (aU _ _ _ _ _ _ _ _ _ _)=20 from rfl];omega) (Bq (by decide) (p:=(⟨-1,0⟩:Pl))) rfl ?_;intro Qp oD;iterate 2 refine aF ?_
 iterate 3 refine zQ ?_
 refine vv (v:=iV 3) jv ?_;iterate 2 refine zQ ?_
 refine nZ (kZ (aW (aO (vv zS ?_))));iterate 14 refine zQ ?_
 have kC:=oD.drew;refine aN 7 kC [1] ?_;iterate 2 refine aF ?_
 refine ak (v:= .agg #[iV (-1),iV 0]) 2 rfl (St.del 1 kC) (fun _ aiz=>(aj rfl rfl (aG (cs:=[iV (-1),iV 0]) Tryz.underlying30 rfl iJ rfl (Uk.rg hu aiz)))) ?_;iterate 2 refine aF ?_
 refine ak (v:=pV kn (5+3*2)) 5 rfl (St.del 1 kC) (fun _ _=>(bP rfl rfl rfl (eu 3 Tryz.underlying31 iJ rfl (by decide)))) ?_;refine aS 6 ?_;refine rY (i:=6) rfl rfl (cs:= #[iV (-1),iV 0]) (row':=aU n up (tv) syn (.slice (aD b1 0) 4 4) (upd (upd (upd (upd Hh 0 (⟨-1,0⟩:Pl)) 1 (⟨-1,0⟩:Pl)) 2 (⟨-1,0⟩:Pl)) 3 (⟨-1,0⟩:Pl)) (fun _=>false) (iv) (pv) turn) (fs':=(_::(.blk kn (aU n up (tv) syn (.slice (aD b1 0) 4 4) (upd (upd (upd (upd Hh 0 (⟨-1,0⟩:Pl)) 1 (⟨-1,0⟩:Pl)) 2 (⟨-1,0⟩:Pl)) 3 (⟨-1,0⟩:Pl)) (fun _=>false) (iv) (pv) turn) 129)::fs)) 1 kC (wn rfl) rfl rfl rfl rfl rfl rfl iJ rfl (bZ rfl) (by rw [show Array.size (aU _ _ _ _ _ _ _ _ _ _)=20 from rfl];omega) (Bq (by decide) (p:=(⟨-1,0⟩:Pl))) rfl ?_;intro Ux tu;iterate 2 refine aF ?_
 iterate 3 refine zQ ?_
 refine vv (v:=iV 4) jv ?_;iterate 2 refine zQ ?_
 refine nZ (kZ (aW (aO (vv agk ?_))));iterate 14 refine zQ ?_
 refine iU (row':=aU n up (tv) syn (.slice (aD b1 0) 4 4) (upd (upd (upd (upd Hh 0 (⟨-1,0⟩:Pl)) 1 (⟨-1,0⟩:Pl)) 2 (⟨-1,0⟩:Pl)) 3 (⟨-1,0⟩:Pl)) (fun _=>false) (.slice none 0 0) (pv) turn) 1 tu zG ?_;intro L9 mW;iterate 2 refine zQ ?_
 refine iU (row':=aU n up (tv) syn (.slice (aD b1 0) 4 4) (upd (upd (upd (upd Hh 0 (⟨-1,0⟩:Pl)) 1 (⟨-1,0⟩:Pl)) 2 (⟨-1,0⟩:Pl)) 3 (⟨-1,0⟩:Pl)) (fun _=>false) (.slice none 0 0) (.nilFunc) turn) 1 mW oC ?_;intro UJ uy;refine zQ ?_;refine bN (l':=[]) trivial (aY (rs:=[]) (vs:=[]) rfl trivial ?_);have qX:=uy.dM [0,1];exact ⟨rfl,b1,qX⟩
section
variable {K:CK} {L L':List Fact} {m:Cl} {n q c:Nat} {X:Nd} {z:NX} {v:Value} {FD:Dir×Int} {BR:bO×Int} {A:Option Addr} {Y:BX} {d:List UInt8}
theorem dz.pv_ (h:dz K L n X z) (hv:z.pv=v):dz K L n X { z with pv:=v }:=by
 subst hv;exact h
theorem dz.aql (h:dz K L n X z) (hp:X.pend=none) (hq:q<4) (hsub: ∀ f∈L,f∈L') (hr: .bG 1 A d.length (byteCells d)∈L') (hY:zi L' Y):
  dz K L' n { X with data:=d,syn:=((d.length:Nat):Int),bs:=upd X.bs q Y.b } { z with tA:=A,tc:=c,pv:= .nilFunc,bx:=z.bx.set q Y }:=
 ⟨Fu h.MG hq,Bt (fun u hu=>(h.Ox u hu).mono hsub) hY,Ro.bG hr,h.Xm,fun u hu=>(h.Xn u hu).mono hsub,by show nU _ _ _ X.pend _;rw [hp];rfl⟩
theorem X4 (h:(m.av n).up=false):m.make n q=m:=by unfold Cl.make;rw [if_pos (.inl h)]
theorem X6 (h:(m.av n).pend.isSome=true):m.make n q=m:=by unfold Cl.make;rw [if_pos (.inr (.inl h))]
theorem abE (hF:vw m.off q n=FD) (h: ¬ FD.2=0):m.make n q=m:=by unfold Cl.make;rw [if_pos (.inr (.inr (by rw [hF];exact h)))]
theorem abF (hB:iB ((m.av n).bs q) 1=BR) (h: ¬ BR.2=0):m.make n q=m:=by
 unfold Cl.make
 split
 ·rfl
 rw [hB,if_pos h]
theorem X7 (hX:m.av n=X) (hB:iB (X.bs q) 1=BR) (hw:eD X.data X.syn [fq 1 q BR.1.ep 0 aT]=none):m.make n q=m:=by
 subst hX;subst hB;unfold Cl.make Nd.write
 split
 ·rfl
 split
 ·rfl
 rw [hw];rfl
theorem abG (hX:m.av n=X) (hu:X.up=true) (hp:X.pend=none) (hF:vw m.off q n=FD) (hf:FD.2=0) (hB:iB (X.bs q) 1=BR) (hb:BR.2=0) (hw:eD X.data X.syn [fq 1 q BR.1.ep 0 aT]=some d):
  m.make n q={ m.put n { X with data:=d,syn:=((d.length:Nat):Int),bs:=upd X.bs q BR.1 } with off:=FD.1,shown:=ni m.shown n q (1,0) }:=by
 subst hX;subst hB;subst hF;unfold Cl.make Nd.write;rw [hu,hp,if_neg (by simp [hf]),if_neg (fun e=>e hb),hw];rfl
end
theorem TK {K:CK} {B n kn kw:Nat} {w0 w:World} {fs:List Fact} {m:Cl} {H:List LX} {q:Nat} (hn:n<5) (hkn:K.nb n=kn) (bR:K.wb=kw) (hu:Uk B w0) (hB1:m.fly.length≤1000000000) (hB2:m.aH.length≤1000000000000) (hq:q<4) (HW:Wd K B w0 w fs m H) (hv: ∀ q,q<4→au ((m.av n).bs q)=0) (hmay: ∀ rs d,eD (m.av n).data (m.av n).syn rs=some d→cu d (m.av n).syn=true):
    Calls Tryz.prog 68 #[pV kw 0,pV kn 0,iV ((q:Nat):Int)] w (fun e w'=>e= .returned (.tuple #[])∧Wd K B w0 w' fs (m.make n q) H):=by
 obtain ⟨R,G,S0⟩:=HW.open hn;have hfl:R.fx.length=m.fly.length:=by rw [←G.fly,List.length_map]
 have NG:=G.lC n hn;obtain ⟨X,hX⟩: ∃ X,m.av n=X:=⟨_,rfl⟩;obtain ⟨z,hz⟩: ∃ z,R.nx n=z:=⟨_,rfl⟩;rw [hX,hz] at S0 NG;have hL: ∀ f∈R.L,f∈eZ K R m fs n:=fun f h=>List.mem_append_right _ (List.mem_append_right _ h)
 obtain ⟨rr,hrr⟩: ∃ r,eZ K R m fs n=r:=⟨_,rfl⟩;rw [hrr] at S0 hL;obtain ⟨pv0,Fv⟩: ∃ v,z.pv=v:=⟨_,rfl⟩;have S:St B w0 w ((.blk kn (aU n X.up (.slice z.tA X.data.length z.tc) X.syn (.slice (aD z.bb 0) 4 4) X.hints X.sure (.slice z.iA z.ix.length z.ic) (pv0) X.turn) 129)::(.own 42 6 (.slice (aD z.bb 0) 4 4) 4 ((z.bx).flatMap BX.cells))::(.off 169 23 z.iA z.ix.length z.ic ((z.ix).flatMap LX.cells))::(.blk kw (bL (.slice R.nA 5 R.nc) m.off (.slice R.fA R.fx.length R.fc) m.shown (.slice R.sA m.aH.length R.sc) (.slice R.tA m.aM.length R.tc) m.calls) 121)::(.own 169 23 (.slice R.fA R.fx.length R.fc) R.fx.length ((R.fx).flatMap LX.cells))::(.own 85 14 (.slice R.sA m.aH.length R.sc) m.aH.length ((m.aH).flatMap eT.cells))::(.own 81 7 (.slice R.tA m.aM.length R.tc) m.aM.length ((m.aM).flatMap fK.cells))::rr):=by rw [←Fv];subst hkn;subst bR;exact S0
 clear S0 HW;have hlen:=(S.own 1 rfl).1;rw [gL (sz:=6) (fun _=>rfl)] at hlen;rw [hX] at hv;obtain ⟨y,hy,hyb,qZ⟩:=NG.at_ hq;have hln:=jC (iO (hyb▸hv _ hq));have wR:y.b.evs.length*48≤reachBytes:=by unfold reachBytes;omega
 have Iu:=uZ (hyb▸hv _ hq);refine fE 93 Tryz.func68 ?_;refine bq (l':=[(0,pV kw 0),(1,pV kn 0),(2,iV ((q:Nat):Int))]) ⟨rfl,rfl,rfl,trivial⟩ ?_;obtain ⟨FD,FZ⟩: ∃ r,vw m.off q n=r:=⟨_,rfl⟩;have HF:=fun w h=>O1 m.off q n w h
 rw [FZ] at HF;refine jU (X:=Nat) (fun xv=>[(0,pV kw 0),(1,pV kn 0),(2,iV ((q:Nat):Int)),(6,pV xv 0),(7,iV FD.2)]) (fun xv wr=>St B w0 wr ((.blk xv (((FD.1).cells).toArray) 33)::(.blk kn (aU n X.up (.slice z.tA X.data.length z.tc) X.syn (.slice (aD z.bb 0) 4 4) X.hints X.sure (.slice z.iA z.ix.length z.ic) (pv0) X.turn) 129)::(.own 42 6 (.slice (aD z.bb 0) 4 4) 4 ((z.bx).flatMap BX.cells))::(.off 169 23 z.iA z.ix.length z.ic ((z.ix).flatMap LX.cells))::(.blk kw (bL (.slice R.nA 5 R.nc) m.off (.slice R.fA R.fx.length R.fc) m.shown (.slice R.sA m.aH.length R.sc) (.slice R.tA m.aM.length R.tc) m.calls) 121)::(.own 169 23 (.slice R.fA R.fx.length R.fc) R.fx.length ((R.fx).flatMap LX.cells))::(.own 85 14 (.slice R.sA m.aH.length R.sc) m.aH.length ((m.aH).flatMap eT.cells))::(.own 81 7 (.slice R.tA m.aM.length R.tc) m.aM.length ((m.aM).flatMap fK.cells))::rr)) ?_ ?_
 ·have S1:=S.drew;refine EL (C:=fun w'=>St B w0 w' ((.blk kn (aU n X.up (.slice z.tA X.data.length z.tc) X.syn (.slice (aD z.bb 0) 4 4) X.hints X.sure (.slice z.iA z.ix.length z.ic) (pv0) X.turn) 129)::(.own 42 6 (.slice (aD z.bb 0) 4 4) 4 ((z.bx).flatMap BX.cells))::(.off 169 23 z.iA z.ix.length z.ic ((z.ix).flatMap LX.cells))::(.blk kw (bL (.slice R.nA 5 R.nc) m.off (.slice R.fA R.fx.length R.fc) m.shown (.slice R.sA m.aH.length R.sc) (.slice R.tA m.aM.length R.tc) m.calls) 121)::(.own 169 23 (.slice R.fA R.fx.length R.fc) R.fx.length ((R.fx).flatMap LX.cells))::(.own 85 14 (.slice R.sA m.aH.length R.sc) m.aH.length ((m.aH).flatMap eT.cells))::(.own 81 7 (.slice R.tA m.aM.length R.tc) m.aM.length ((m.aM).flatMap fK.cells))::rr)) (n:=16) (listed:= #[false,false,false,false,false,false,false,false,false,false,false,false,false,false,false,false]) mixed rfl rfl ?_;iterate 3 refine aF ?_
  refine ak (v:= .agg ((m.off.cells).toArray)) 3 rfl S1 (fun _ Sx5=>(aj rfl rfl (aG (cs:=(m.off.cells)) Tryz.underlying33 rfl nS rfl (St.rg 3 Sx5 rfl (vN))))) ?_;iterate 5 refine aF ?_
  refine dR (n:=6) (r:=9) (s:=13) (by kernel_rfl) ?_ ?_
  ·refine iH 9 rfl alQ (HF _ (Uk.nw hu S1)) ?_;rintro _ Ee ⟨rfl,acE⟩;refine ⟨_,rfl,?_⟩;have lq:=S1.on acE;iterate 4 refine aF ?_
   refine aS 13 ?_;refine jk 13 rfl lq ab3 ?_;intro b17 L8 lg;refine aF ?_;refine aS 14 ?_;refine Zp 14 rfl 0 lg nS ?_ (h1:=um _);intro ZH qP;iterate 3 refine aF ?_
   refine bJ b17 ?_ ⟨rfl,rfl,rfl,rfl,rfl,trivial⟩;exact qP
  refine jk 13 rfl S1 ab3 ?_;intro xX JU iX;refine aF ?_;refine aS 9 ?_;refine iH 9 rfl alQ (HF _ (Uk.nw hu iX)) ?_;rintro _ IQ ⟨rfl,acz⟩;refine ⟨_,rfl,?_⟩;have qJ:=iX.on acz;iterate 4 refine aF ?_
  refine aS 14 ?_;refine Zp 14 rfl 0 qJ nS ?_ (h1:=um _);intro w32 qY;iterate 3 refine aF ?_
  refine bJ xX ?_ ⟨rfl,rfl,rfl,rfl,rfl,trivial⟩;exact qY
 rintro ZA w36 qN
 try dsimp only at qN
 refine bq (l':=[(0,pV kw 0),(1,pV kn 0),(2,iV ((q:Nat):Int)),(6,pV ZA 0),(7,iV FD.2)]) ⟨rfl,rfl,rfl,rfl,rfl,trivial⟩ (aW (aW ?_));have hpn:=NG.zN;change nU (K.nb n) K.wb _ _ _ at hpn;rw [hkn,bR,Fv] at hpn
 rcases hup:X.up with _ | _
 ·iterate 4 refine zQ ?_
  refine vv (v:= .bool false) (KC hup (aj rfl rfl (aA Tryz.underlying4 rfl (St.cl 1 qN rfl rfl)))) ?_;iterate 18 refine zQ ?_
  have oG:=qN.dM [7,7,7,7,7,7,7];have oZ:m.make n q=m:=X4 (by rw [hX];exact hup);rw [oZ];exact ⟨rfl,Wd.dw (X':=X) (z':={ z with pv:=pv0 }) (Ls:=[.blk ZA (((FD.1).cells).toArray) 33]) (fA:=R.fA) (fc:=R.fc) (fx:=R.fx) (sA:=R.sA) (sc:=R.sc) (tA:=R.tA) (tc:=R.tc) hkn bR hrr G hn oG (NG.more.pv_ Fv) (fun u hu=> .inl hu) (aQ hX).symm G.fly.symm mI⟩
 rcases hp:X.pend with _ | p
 ·rw [hp] at hpn;have hpf:pv0= .nilFunc:=hpn;subst hpf;by_cases hF:FD.2=0
  ·iterate 4 refine zQ ?_
   refine vv (v:= .bool true) (KC hup (aj rfl rfl (aA Tryz.underlying4 rfl (St.cl 1 qN rfl rfl)))) ?_;iterate 6 refine zQ ?_
   refine vg (v:= .bool false) (ah rfl rfl rfl Gp) ?_;iterate 11 refine zQ ?_
   obtain ⟨BR,oz⟩: ∃ r,iB y.b 1=r:=⟨_,rfl⟩;have HP:=fun w h=>Hf y.b.role y.b.ep y.b.fr y.b.tg y.b.rd y.A y.c y.b.evs 1 w h wR
   rw [show iB ⟨y.b.role,y.b.ep,y.b.fr,y.b.tg,y.b.rd,y.b.evs⟩ 1=BR from oz] at HP;iterate 6 refine zQ ?_
   refine vv (gM q) ?_;refine vv (aj rfl rfl (aG (cs:=BX.cells y) Tryz.underlying42 rfl aC rfl (Rd.uN (St.ord 2 qN rfl) (fun _ _ h=>bS (enc:=BX.cells) (sz:=6) (fun _=>rfl) hy h)))) ?_;refine dO alR (HP _ (qZ.1.rd qN (memT 8 rfl hL))) ?_;rintro _ Ux ⟨Em,c40,aqm,rfl,T44⟩;refine ⟨_,rfl,?_⟩;have tu:=qN.ext T44 rfl;iterate 3 refine zQ ?_
   refine eU tu dK ?_;intro b45 UJ uy;refine sa 0 uy aC ?_;intro UE sD;iterate 5 refine zQ ?_
   have rO:=sD.dM [9,9,9,9,9,9,9];by_cases hB:BR.2=0
   ·rcases X8:eD X.data X.syn [fq 1 q BR.1.ep 0 aT] with _ | Iz
    ·iterate 7 refine zQ ?_
     refine qB EN (iC 1 q ⟨BR.1,Em,c40⟩ _) ?_;rintro _ Wu ⟨rfl,ais⟩;refine ⟨_,rfl,?_⟩;have jw:=rO.on ais;refine gV (V:=fun b=> .slice (aD b 0) 1 1) (row:= #[iV 1,iV ((q:Nat):Int),iV BR.1.ep,iV 0,iV 0,iV 0,iV 0,iV 0,iV 0,iV 0]) (t:=205) jw (wg rfl rfl rfl rfl) rfl rfl (aK (vs:=[(0,.agg #[iV 1,iV ((q:Nat):Int),iV BR.1.ep,iV 0,iV 0,iV 0,iV 0,iV 0,iV 0,iV 0])]) rfl ⟨rfl,rfl,trivial⟩ (by kernel_rfl)) ?_;intro b56 w57 yU;have uQ:=yU.dM [7,7,7,7,7,7,7];refine qB Dk (CW (rs:=[fq 1 q BR.1.ep 0 aT]) X8 (Ro.blk (List.mem_iff_getElem?.2 ⟨0,rfl⟩) rfl rfl) NG.vO (by exact memT 4 rfl hL) (Nat.le_of_ble_eq_true rfl) uQ) ?_;rintro _ GZ ⟨rfl,xV⟩;refine ⟨_,rfl,?_⟩;iterate 8 refine zQ ?_
     have oZ:m.make n q=m:=X7 hX (by rw [←hyb];exact oz) X8;rw [oZ];exact ⟨rfl,Wd.dw (X':=X) (z':={ z with pv:= .nilFunc }) (Ls:=[.blk b56 #[iV 1,iV ((q:Nat):Int),iV BR.1.ep,iV 0,iV 0,iV 0,iV 0,iV 0,iV 0,iV 0] 205,.blk b45 #[iV BR.1.role,iV BR.1.ep,iV BR.1.fr,iV BR.1.tg,iV BR.1.rd,.slice Em BR.1.evs.length c40] 42,.bG 6 Em BR.1.evs.length ((BR.1.evs).flatMap Ev.cells),.blk ZA (((FD.1).cells).toArray) 33]) (fA:=R.fA) (fc:=R.fc) (fx:=R.fx) (sA:=R.sA) (sc:=R.sc) (tA:=R.tA) (tc:=R.tc) hkn bR hrr G hn xV (NG.more.pv_ Fv) (fun u hu=> .inl hu) (aQ hX).symm G.fly.symm mI⟩
    iterate 7 refine zQ ?_
    refine qB EN (iC 1 q ⟨BR.1,Em,c40⟩ _) ?_;rintro _ NP ⟨rfl,awu⟩;refine ⟨_,rfl,?_⟩;have oN:=rO.on awu;refine gV (V:=fun b=> .slice (aD b 0) 1 1) (row:= #[iV 1,iV ((q:Nat):Int),iV BR.1.ep,iV 0,iV 0,iV 0,iV 0,iV 0,iV 0,iV 0]) (t:=205) oN (wg rfl rfl rfl rfl) rfl rfl (aK (vs:=[(0,.agg #[iV 1,iV ((q:Nat):Int),iV BR.1.ep,iV 0,iV 0,iV 0,iV 0,iV 0,iV 0,iV 0])]) rfl ⟨rfl,rfl,trivial⟩ (by kernel_rfl)) ?_;intro b69 UA qh;have Cz:=qh.dM [7,7,7,7,7,7,7];refine qB Dk (CY (rs:=[fq 1 q BR.1.ep 0 aT]) X8 (Ro.blk (List.mem_iff_getElem?.2 ⟨0,rfl⟩) rfl rfl) NG.vO (by exact memT 4 rfl hL) (Nat.le_of_ble_eq_true rfl) Cz) ?_;rintro _ UF ⟨A73,c74,N75,rfl,aqn,Bg⟩;refine ⟨_,rfl,?_⟩;iterate 13 refine zQ ?_
    refine vv (aj rfl rfl (aG (cs:=[.slice A73 Iz.length c74,iV X.syn]) Tryz.underlying125 rfl dX rfl (St.rg 0 Bg rfl (qy)))) ?_;rw [hX] at hmay;have C8:=fun w h=>yI (nE A73 Iz.length c74 Iz X.syn w h)
    rw [vU (hmay _ _ X8)] at C8;refine dO MU (C8 _ (aqn.rd Bg (memT 11 rfl (Rq hL)))) ?_;rintro _ w81 ⟨A79,c80,rfl,T83⟩;refine ⟨_,rfl,?_⟩;have UG:=Bg.ext T83 rfl;iterate 5 refine zQ ?_
    refine iU (row':=aU n X.up (.slice A79 Iz.length c80) ((Iz.length:Nat):Int) (.slice (aD z.bb 0) 4 4) X.hints X.sure (.slice z.iA z.ix.length z.ic) (.nilFunc) X.turn) 1 UG dX ?_;intro w84 Bl;iterate 3 refine zQ ?_
    have uh:=Bl.drew;refine fG 8 6 uh [] ?_;iterate 6 refine iP ?_
    refine eF (by kernel_rfl) rfl rfl rfl ?_;refine vv (gM q) ?_;refine kJ (xs':=(z.bx.set q (⟨BR.1,Em,c40⟩:BX)).flatMap BX.cells) 2 uh (wn rfl) rfl rfl rfl rfl rfl rfl aC rfl (bZ rfl) (by omega) (by rw [Nat.zero_add];exact oI (enc:=BX.cells) (sz:=6) (fun _=>rfl) (⟨BR.1,Em,c40⟩:BX) _ _ (by omega)) ?_;intro w93 CF;have hy95:(z.bx.set q (⟨BR.1,Em,c40⟩:BX))[q]? =some (⟨BR.1,Em,c40⟩:BX):=List.getElem?_set_self (by omega);refine zQ ?_;refine je ?_;iterate 7 refine zQ ?_
    refine iU 4 CF nS ?_ (h1:=um _) (hs:=by exact aia);intro Qv uP;iterate 2 refine zQ ?_
    have Aw:=uP.drew;refine aN 12 Aw [4] ?_;iterate 6 refine aF ?_
    refine ak (v:= .agg #[iV 1,iV 0]) 6 rfl (St.del 4 Aw) (fun _ _=>gZ) ?_;iterate 2 refine aF ?_
    refine ak (v:=pV kw (10+n*8)) 9 rfl (St.del 4 Aw) (fun _ _=>(bP rfl rfl rfl (eu n Tryz.underlying119 JG rfl hn))) ?_;refine ak (v:=pV kw (10+n*8+q*2)) 10 rfl (St.del 4 Aw) (fun _ _=>(bP rfl rfl rfl (eu q Tryz.underlying118 xD rfl hq))) ?_;refine aS 11 ?_;refine rY (i:=11) rfl rfl (cs:= #[iV 1,iV 0]) (row':=bL (.slice R.nA 5 R.nc) (FD.1) (.slice R.fA R.fx.length R.fc) (ni m.shown n q (1,0)) (.slice R.sA m.aH.length R.sc) (.slice R.tA m.aM.length R.tc) m.calls) (fs':=(_::_::_::_::(.blk kw (bL (.slice R.nA 5 R.nc) (FD.1) (.slice R.fA R.fx.length R.fc) (ni m.shown n q (1,0)) (.slice R.sA m.aH.length R.sc) (.slice R.tA m.aM.length R.tc) m.calls) 121)::_::_::_::_::_::_::_::(rr++N75))) 4 Aw (wn rfl) rfl rfl rfl rfl rfl rfl xD rfl (bZ rfl) (by rw [ZY];omega) (agK hn hq (a:=1) (b:=0)) rfl ?_;intro al7 zW;iterate 2 refine aF ?_
    refine bN (l':=[]) trivial (aY (rs:=[]) (vs:=[]) rfl trivial ?_);have sH:=zW.dM [7,7,7,7,7,7,7];rw [abG hX hup hp FZ hF (by rw [←hyb];exact oz) hB X8];exact ⟨rfl,Wd.fin (X':={ X with data:=Iz,syn:=((Iz.length:Nat):Int),bs:=upd X.bs q BR.1 }) (z':={ z with tA:=A79,tc:=c80,pv:= .nilFunc,bx:=z.bx.set q (⟨BR.1,Em,c40⟩:BX) }) (N:=N75) (Ls:=[.bG 1 A79 Iz.length (byteCells Iz),.blk b69 #[iV 1,iV ((q:Nat):Int),iV BR.1.ep,iV 0,iV 0,iV 0,iV 0,iV 0,iV 0,iV 0] 205,.blk b45 #[iV BR.1.role,iV BR.1.ep,iV BR.1.fr,iV BR.1.tg,iV BR.1.rd,.slice Em BR.1.evs.length c40] 42,.bG 6 Em BR.1.evs.length ((BR.1.evs).flatMap Ev.cells),.blk ZA (((FD.1).cells).toArray) 33]) (fA:=R.fA) (fc:=R.fc) (fx:=R.fx) (sA:=R.sA) (sc:=R.sc) (tA:=R.tA) (tc:=R.tc) hkn bR hrr G hn sH (dz.aql (Y:=(⟨BR.1,Em,c40⟩:BX)) NG hp hq (fun f hf=>List.mem_append_left _ hf) (qz (List.mem_iff_getElem?.2 ⟨0,rfl⟩)) ⟨Ro.bG (qz (List.mem_iff_getElem?.2 ⟨3,rfl⟩)),aqm⟩) (fun u hu=> .inl hu) rfl G.fly.symm mI⟩
   iterate 18 refine zQ ?_
   have oZ:m.make n q=m:=abF (by rw [hX,←hyb];exact oz) hB;rw [oZ];exact ⟨rfl,Wd.dw (X':=X) (z':={ z with pv:= .nilFunc }) (Ls:=[.blk b45 #[iV BR.1.role,iV BR.1.ep,iV BR.1.fr,iV BR.1.tg,iV BR.1.rd,.slice Em BR.1.evs.length c40] 42,.bG 6 Em BR.1.evs.length ((BR.1.evs).flatMap Ev.cells),.blk ZA (((FD.1).cells).toArray) 33]) (fA:=R.fA) (fc:=R.fc) (fx:=R.fx) (sA:=R.sA) (sc:=R.sc) (tA:=R.tA) (tc:=R.tc) hkn bR hrr G hn rO (NG.more.pv_ Fv) (fun u hu=> .inl hu) (aQ hX).symm G.fly.symm mI⟩
  iterate 4 refine zQ ?_
  refine vv (v:= .bool true) (KC hup (aj rfl rfl (aA Tryz.underlying4 rfl (St.cl 1 qN rfl rfl)))) ?_;iterate 6 refine zQ ?_
  refine vg (v:= .bool false) (ah rfl rfl rfl Gp) ?_;iterate 11 refine zQ ?_
  have jg:=qN.dM [7,7,7,7,7,7,7];have oZ:m.make n q=m:=abE FZ hF;rw [oZ];exact ⟨rfl,Wd.dw (X':=X) (z':={ z with pv:= .nilFunc }) (Ls:=[.blk ZA (((FD.1).cells).toArray) 33]) (fA:=R.fA) (fc:=R.fc) (fx:=R.fx) (sA:=R.sA) (sc:=R.sc) (tA:=R.tA) (tc:=R.tc) hkn bR hrr G hn jg (NG.more.pv_ Fv) (fun u hu=> .inl hu) (aQ hX).symm G.fly.symm mI⟩
 rw [hp] at hpn;obtain ⟨f2,xs2,ys2,hpf⟩:=Gt hpn;subst hpf;iterate 4 refine zQ ?_
 refine vv (v:= .bool true) (KC hup (aj rfl rfl (aA Tryz.underlying4 rfl (St.cl 1 qN rfl rfl)))) ?_;iterate 6 refine zQ ?_
 refine vg (v:= .bool true) (ah rfl rfl rfl u6) ?_;iterate 11 refine zQ ?_
 have yX:=qN.dM [7,7,7,7,7,7,7];have oZ:m.make n q=m:=X6 (by rw [hX,hp];rfl);rw [oZ];exact ⟨rfl,Wd.dw (X':=X) (z':={ z with pv:= .func f2 xs2 ys2 }) (Ls:=[.blk ZA (((FD.1).cells).toArray) 33]) (fA:=R.fA) (fc:=R.fc) (fx:=R.fx) (sA:=R.sA) (sc:=R.sc) (tA:=R.tA) (tc:=R.tc) hkn bR hrr G hn yX (NG.more.pv_ Fv) (fun u hu=> .inl hu) (aQ hX).symm G.fly.symm mI⟩
section
variable {K:CK} {L:List Fact} {m:Cl} {n q:Nat} {tg:Int} {X:Nd} {z:NX} {PW:Pl×Int} {BR:bO×Int} {Y:BX}
theorem dz.agW (h:dz K L n X z) (hq:q<4) (hY:zi L Y):dz K L n (X.dS q Y.b) { z with bx:=z.bx.set q Y }:=⟨Fu h.MG hq,Bt h.Ox hY,h.vO,h.Xm,h.Xn,h.zN⟩
theorem QF (hP:bI m.off q=PW) (h: ¬ PW.2=0∨PW.1.node=tg∨(m.av PW.1.node.toNat).up=false):m.move q tg=m:=by
 subst hP;unfold Cl.move;rw [if_pos h]
theorem aai (hP:bI m.off q=PW) (hn:PW.1.node=((n:Nat):Int)) (hX:m.av n=X) (hB:xW (X.bs q) tg=BR) (h: ¬ (BR.2=0∧BR.1.ep=PW.1.epoch)):m.move q tg=m:=by
 subst hP;subst hX;subst hB;unfold Cl.move
 split
 ·rfl
 rw [hn,Int.toNat_natCast,if_neg h]
theorem alj (hP:bI m.off q=PW) (h1:PW.2=0) (h2: ¬ PW.1.node=tg) (hn:PW.1.node=((n:Nat):Int)) (hX:m.av n=X) (hu:X.up=true) (hB:xW (X.bs q) tg=BR) (h3:BR.2=0) (h4:BR.1.ep=PW.1.epoch):m.move q tg=m.put n (X.dS q BR.1):=by
 subst hP;subst hX;subst hB;unfold Cl.move;have e:(bI m.off q).1.node.toNat=n:=by rw [hn,Int.toNat_natCast]
 rw [e,hu,if_neg (by rintro (h | h | h);exact h h1;exact h2 h;cases h),if_pos ⟨h3,h4⟩];rfl
end
theorem TL {K:CK} {B n kn kw:Nat} {w0 w:World} {fs:List Fact} {m:Cl} {H:List LX} {q:Nat} {tg:Int} {PW:Pl×Int} (hn:n<5) (hkn:K.nb n=kn) (bR:K.wb=kw) (hu:Uk B w0) (hB1:m.fly.length≤1000000000) (hB2:m.aH.length≤1000000000000) (hq:q<4) (HW:Wd K B w0 w fs m H) (hv: ∀ q,q<4→au ((m.av n).bs q)=0) (uw:bI m.off q=PW) (hwn:PW.2=0→PW.1.node=((n:Nat):Int)):
    Calls Tryz.prog 75 #[pV kw 0,iV ((q:Nat):Int),iV tg] w (fun e w'=>e= .returned (.tuple #[])∧Wd K B w0 w' fs (m.move q tg) H):=by
 obtain ⟨R,G,S0⟩:=HW.open hn;have hfl:R.fx.length=m.fly.length:=by rw [←G.fly,List.length_map]
 have NG:=G.lC n hn;obtain ⟨X,hX⟩: ∃ X,m.av n=X:=⟨_,rfl⟩;obtain ⟨z,hz⟩: ∃ z,R.nx n=z:=⟨_,rfl⟩;rw [hX,hz] at S0 NG;have hL: ∀ f∈R.L,f∈eZ K R m fs n:=fun f h=>List.mem_append_right _ (List.mem_append_right _ h)
 obtain ⟨rr,hrr⟩: ∃ r,eZ K R m fs n=r:=⟨_,rfl⟩;rw [hrr] at S0 hL;have S:St B w0 w ((.blk kn (aU n X.up (.slice z.tA X.data.length z.tc) X.syn (.slice (aD z.bb 0) 4 4) X.hints X.sure (.slice z.iA z.ix.length z.ic) (z.pv) X.turn) 129)::(.own 42 6 (.slice (aD z.bb 0) 4 4) 4 ((z.bx).flatMap BX.cells))::(.off 169 23 z.iA z.ix.length z.ic ((z.ix).flatMap LX.cells))::(.blk kw (bL (.slice R.nA 5 R.nc) m.off (.slice R.fA R.fx.length R.fc) m.shown (.slice R.sA m.aH.length R.sc) (.slice R.tA m.aM.length R.tc) m.calls) 121)::(.own 169 23 (.slice R.fA R.fx.length R.fc) R.fx.length ((R.fx).flatMap LX.cells))::(.own 85 14 (.slice R.sA m.aH.length R.sc) m.aH.length ((m.aH).flatMap eT.cells))::(.own 81 7 (.slice R.tA m.aM.length R.tc) m.aM.length ((m.aM).flatMap fK.cells))::rr):=by subst hkn;subst bR;exact S0
 clear S0 HW;have hlen:=(S.own 1 rfl).1;rw [gL (sz:=6) (fun _=>rfl)] at hlen;rw [hX] at hv;obtain ⟨y,hy,hyb,qZ⟩:=NG.at_ hq;have hln:=jC (iO (hyb▸hv _ hq));have wR:y.b.evs.length*48≤reachBytes:=by unfold reachBytes;omega
 have Iu:=uZ (hyb▸hv _ hq);obtain ⟨ab,ao,oO⟩:=zn G.arr S (memT 7 rfl hL);have harr:=G.arr;rw [oO] at S harr;refine fE 78 Tryz.func75 ?_;refine cw [0,1,2] ?_;refine zQ ?_;have HQ:=fun w h=>lU m.off q w h
 rw [uw] at HQ;iterate 4 refine zQ ?_
 refine vv (aj rfl rfl (aG (cs:=(m.off.cells)) Tryz.underlying33 rfl nS rfl (St.rg 3 S rfl (vN)))) ?_;refine zQ ?_;refine cab wY S (HQ _ (Uk.nw hu S)) ?_;intro w1 S2;iterate 3 refine zQ ?_
 refine eU S2 Dl ?_;intro b4 w5 S6;refine sa 0 S6 iJ ?_;intro w7 S8;iterate 5 refine zQ ?_
 by_cases hP:PW.2=0
 ·by_cases hT:PW.1.node=tg
  ·refine eH S8 mixed (by kernel_rfl) ?_;iterate 22 refine zQ ?_
   refine fC fun zJ kr=>?_
   iterate 5 refine zQ ?_
   have qP:=kr.aR [0];rw [←oO] at qP;have oZ:m.move q tg=m:=QF uw (.inr (.inl hT));rw [oZ];exact ⟨rfl,Wd.dw (X':=X) (z':=z) (Ls:=[]) (fA:=R.fA) (fc:=R.fc) (fx:=R.fx) (sA:=R.sA) (sc:=R.sc) (tA:=R.tA) (tc:=R.tc) hkn bR hrr G hn qP NG.more (fun u hu=> .inl hu) (aQ hX).symm G.fly.symm mI⟩
  have hpn:=hwn (by omega)
  rcases hup:X.up with _ | _
  ·refine eH S8 mixed (by kernel_rfl) ?_;iterate 12 refine zQ ?_
   refine ug (v:= .slice (aD ab ao) 5 R.nc) (fun _ awv=>(aj rfl rfl (aA Tryz.underlying114 rfl (St.cl 4 awv rfl xP)))) ?_;refine zQ ?_;refine ug (v:=iV ((n:Nat):Int)) (fun _ aww=>(zo hpn (aj rfl rfl (aA Tryz.underlying3 rfl (St.cl 0 aww rfl rfl))))) ?_;refine ug (fun _ _=>gM n) ?_;refine ug (v:=pV kn 0) (fun _ aiz=>(aj rfl rfl (aA Tryz.underlying122 rfl (hkn▸uq harr hn aiz (memT 8 rfl hL))))) ?_;iterate 2 refine zQ ?_
   refine ug (v:= .bool false) (fun _ awx=>(KC hup (aj rfl rfl (aA Tryz.underlying4 rfl (St.cl 1 awx rfl rfl))))) ?_;iterate 2 refine zQ ?_
   refine fC fun L9 mW=>?_
   iterate 5 refine zQ ?_
   have qj:=mW.aR [0];rw [←oO] at qj;have oZ:m.move q tg=m:=QF uw (.inr (.inr (by rw [hpn,Int.toNat_natCast,hX];exact hup)));rw [oZ];exact ⟨rfl,Wd.dw (X':=X) (z':=z) (Ls:=[]) (fA:=R.fA) (fc:=R.fc) (fx:=R.fx) (sA:=R.sA) (sc:=R.sc) (tA:=R.tA) (tc:=R.tc) hkn bR hrr G hn qj NG.more (fun u hu=> .inl hu) (aQ hX).symm G.fly.symm mI⟩
  refine eH S8 mixed (by kernel_rfl) ?_;iterate 12 refine zQ ?_
  refine ug (v:= .slice (aD ab ao) 5 R.nc) (fun _ VX=>(aj rfl rfl (aA Tryz.underlying114 rfl (St.cl 4 VX rfl xP)))) ?_;refine zQ ?_;refine ug (v:=iV ((n:Nat):Int)) (fun _ awy=>(zo hpn (aj rfl rfl (aA Tryz.underlying3 rfl (St.cl 0 awy rfl rfl))))) ?_;refine ug (fun _ _=>gM n) ?_;refine ug (v:=pV kn 0) (fun _ awz=>(aj rfl rfl (aA Tryz.underlying122 rfl (hkn▸uq harr hn awz (memT 8 rfl hL))))) ?_;iterate 2 refine zQ ?_
  refine ug (v:= .bool true) (fun _ awC=>(KC hup (aj rfl rfl (aA Tryz.underlying4 rfl (St.cl 1 awC rfl rfl))))) ?_;iterate 2 refine zQ ?_
  refine fC fun ZN lu=>?_
  iterate 5 refine zQ ?_
  refine eH lu mixed (by kernel_rfl) ?_;iterate 3 refine zQ ?_
  refine uv (v:= .slice (aD ab ao) 5 R.nc) (fun _ aio=>(aj rfl rfl (aA Tryz.underlying114 rfl (St.cl 4 aio rfl xP)))) ?_;refine zQ ?_;refine uv (v:=iV ((n:Nat):Int)) (fun _ aii=>(zo hpn (aj rfl rfl (aA Tryz.underlying3 rfl (St.cl 0 aii rfl rfl))))) ?_;refine uv (fun _ _=>gM n) ?_;refine uv (v:=pV kn 0) (fun _ awD=>(aj rfl rfl (aA Tryz.underlying122 rfl (hkn▸uq harr hn awD (memT 8 rfl hL))))) ?_;refine zQ ?_;refine fC fun Mc pF=>?_
  iterate 2 refine zQ ?_
  obtain ⟨BR,oz⟩: ∃ r,xW y.b tg=r:=⟨_,rfl⟩;have HP:=fun w h=>aa5 y.b.role y.b.ep y.b.fr y.b.tg y.b.rd y.A y.c y.b.evs tg w h wR
  rw [show xW ⟨y.b.role,y.b.ep,y.b.fr,y.b.tg,y.b.rd,y.b.evs⟩ tg=BR from oz] at HP;iterate 6 refine zQ ?_
  refine vv (gM q) ?_;refine vv (aj rfl rfl (aG (cs:=BX.cells y) Tryz.underlying42 rfl aC rfl (Rd.uN (St.ord 2 pF rfl) (fun _ _ h=>bS (enc:=BX.cells) (sz:=6) (fun _=>rfl) hy h)))) ?_;refine zQ ?_;refine dO aoX (HP _ (qZ.1.rd pF (memT 8 rfl hL))) ?_;rintro _ Qu ⟨X9,c83,aqo,rfl,T87⟩;refine ⟨_,rfl,?_⟩;have uh:=pF.ext T87 rfl;iterate 3 refine zQ ?_
  refine eU uh dK ?_;intro b88 w89 JO;refine sa 0 JO aC ?_;intro Zz vI;iterate 4 refine zQ ?_
  by_cases hB:BR.2=0
  ·by_cases hE:BR.1.ep=PW.1.epoch
   ·iterate 13 refine zQ ?_
    have yR:=vI.drew;refine fG 8 6 yR [] ?_;iterate 6 refine iP ?_
    refine eF (by kernel_rfl) rfl rfl rfl ?_;refine vv (gM q) ?_;refine kJ (xs':=(z.bx.set q (⟨BR.1,X9,c83⟩:BX)).flatMap BX.cells) 4 yR (wn rfl) rfl rfl rfl rfl rfl rfl aC rfl (bZ rfl) (by omega) (by rw [Nat.zero_add];exact oI (enc:=BX.cells) (sz:=6) (fun _=>rfl) (⟨BR.1,X9,c83⟩:BX) _ _ (by omega)) ?_;intro V5 sG;have hy102:(z.bx.set q (⟨BR.1,X9,c83⟩:BX))[q]? =some (⟨BR.1,X9,c83⟩:BX):=List.getElem?_set_self (by omega);refine zQ ?_;refine je ?_;refine bN (l':=[]) trivial (aY (rs:=[]) (vs:=[]) rfl trivial ?_);have l9:=sG.aR [2,0];have qG:=l9.dM [7,7,7,7,7,7,7];rw [←oO] at qG;have oZ:m.move q tg=m.put n (X.dS q BR.1):=alj uw hP hT hpn hX hup (by rw [←hyb];exact oz) hB hE;rw [oZ];exact ⟨rfl,Wd.dw (X':=(X.dS q BR.1)) (z':={ z with bx:=z.bx.set q (⟨BR.1,X9,c83⟩:BX) }) (Ls:=[.bG 6 X9 BR.1.evs.length ((BR.1.evs).flatMap Ev.cells)]) (fA:=R.fA) (fc:=R.fc) (fx:=R.fx) (sA:=R.sA) (sc:=R.sc) (tA:=R.tA) (tc:=R.tc) hkn bR hrr G hn qG (dz.agW (Y:=(⟨BR.1,X9,c83⟩:BX)) NG.more hq ⟨Ro.bG (List.mem_append_right _ (List.mem_iff_getElem?.2 ⟨0,rfl⟩)),aqo⟩) (fun u hu=> .inl hu) rfl G.fly.symm mI⟩
   iterate 15 refine zQ ?_
   have lD:=vI.aR [2,0];have xL:=lD.dM [7,7,7,7,7,7,7];rw [←oO] at xL;have oZ:m.move q tg=m:=aai uw hpn hX (by rw [←hyb];exact oz) (fun e=>hE e.2);rw [oZ];exact ⟨rfl,Wd.dw (X':=X) (z':=z) (Ls:=[.bG 6 X9 BR.1.evs.length ((BR.1.evs).flatMap Ev.cells)]) (fA:=R.fA) (fc:=R.fc) (fx:=R.fx) (sA:=R.sA) (sc:=R.sc) (tA:=R.tA) (tc:=R.tc) hkn bR hrr G hn xL NG.more (fun u hu=> .inl hu) (aQ hX).symm G.fly.symm mI⟩
  iterate 15 refine zQ ?_
  have wo:=vI.aR [2,0];have rC:=wo.dM [7,7,7,7,7,7,7];rw [←oO] at rC;have oZ:m.move q tg=m:=aai uw hpn hX (by rw [←hyb];exact oz) (fun e=>hB e.1);rw [oZ];exact ⟨rfl,Wd.dw (X':=X) (z':=z) (Ls:=[.bG 6 X9 BR.1.evs.length ((BR.1.evs).flatMap Ev.cells)]) (fA:=R.fA) (fc:=R.fc) (fx:=R.fx) (sA:=R.sA) (sc:=R.sc) (tA:=R.tA) (tc:=R.tc) hkn bR hrr G hn rC NG.more (fun u hu=> .inl hu) (aQ hX).symm G.fly.symm mI⟩
 refine eH S8 mixed (by kernel_rfl) ?_;iterate 22 refine zQ ?_
 refine fC fun ah8 uG=>?_
 iterate 5 refine zQ ?_
 have tT:=uG.aR [0];rw [←oO] at tT;have oZ:m.move q tg=m:=QF uw (.inl hP);rw [oZ];exact ⟨rfl,Wd.dw (X':=X) (z':=z) (Ls:=[]) (fA:=R.fA) (fc:=R.fc) (fx:=R.fx) (sA:=R.sA) (sc:=R.sc) (tA:=R.tA) (tc:=R.tc) hkn bR hrr G hn tT NG.more (fun u hu=> .inl hu) (aQ hX).symm G.fly.symm mI⟩
theorem Ji {B kb n turn dc:Nat} {up:Bool} {dA:Option Addr} {data:List UInt8} {syn:Int} {Hh:Nat→Pl} {Us:Nat→Bool} {bv iv pv:Value} {w0 w:World} {fs:List Fact} {L:List Fact} {rs:List dx} {RA:Option Addr} {rc:Nat} (hw:eD data syn rs=none) (hrs:Ro fs 10 RA rs.length (rs.flatMap dx.cells)) (htp:Ro L 1 dA data.length (byteCells data)) (hL: ∀ f∈L,f∈fs) (hrl:rs.length≤1000000) (S:St B w0 w ((.blk kb (aU n up (.slice dA data.length dc) syn bv Hh Us iv pv turn) 129)::fs)):
  Calls Tryz.prog 96 #[pV kb 0,.slice RA rs.length rc] w (fun e w'=>e= .returned (.bool false)∧St B w0 w' ((.blk kb (aU n up (.slice dA data.length dc) syn bv Hh Us iv pv turn) 129)::fs)):=(C9 (rc:=rc) hrs htp hL hrl S).mono fun e w' h=>h.elim (fun h=>h.2) fun ⟨_,_,_,_,h,_⟩=>by rw [hw] at h;cases h
theorem Jj {B kb n turn dc:Nat} {up:Bool} {dA:Option Addr} {data:List UInt8} {syn:Int} {Hh:Nat→Pl} {Us:Nat→Bool} {bv iv pv:Value} {w0 w:World} {fs:List Fact} {L:List Fact} {d':List UInt8} {rs:List dx} {RA:Option Addr} {rc:Nat} (hw:eD data syn rs=some d') (hrs:Ro fs 10 RA rs.length (rs.flatMap dx.cells)) (htp:Ro L 1 dA data.length (byteCells data)) (hL: ∀ f∈L,f∈fs) (hrl:rs.length≤1000000) (S:St B w0 w ((.blk kb (aU n up (.slice dA data.length dc) syn bv Hh Us iv pv turn) 129)::fs)):
  Calls Tryz.prog 96 #[pV kb 0,.slice RA rs.length rc] w (fun e w'=> ∃ A' c' N,e= .returned (.bool true)∧Ro (L++N) 1 A' d'.length (byteCells d')∧St B w0 w' ((.blk kb (aU n up (.slice A' d'.length c') syn bv Hh Us iv pv turn) 129)::(fs++N))):=(C9 (rc:=rc) hrs htp hL hrl S).mono fun e w' h=>h.elim (fun h=>by rw [hw] at h;cases h.1) fun ⟨d2,A',c',N,h,h1,h2,h3⟩=>by
 rw [hw] at h
 cases h;exact ⟨A',c',N,h1,h2,h3⟩
theorem abH {kn kw:Nat} {L:List Fact}: ∀ {p:Option gX} {v:Value},nU kn kw L p v→v.oneCell'=true
 | none,v,h=>by
  have h':v= .nilFunc:=h;subst h';rfl
 | some p,v,h=>by
  obtain ⟨f,xs,ys,rfl⟩:=Gt h;rfl
theorem aqp {me turn:Nat} {up:Bool} {tv bv iv pv:Value} {syn:Int} {H:Nat→Pl} {U:Nat→Bool} (h1:tv.oneCell'=true) (h2:bv.oneCell'=true) (h3:iv.oneCell'=true) (h4:pv.oneCell'=true): ∀ u∈(aU me up tv syn bv H U iv pv turn).toList,u.oneCell'=true:=by
 intro u hu;simp only [aU,List.mem_cons,List.not_mem_nil,or_false] at hu
 rcases hu with rfl | rfl | rfl | rfl | rfl | rfl | rfl | rfl | rfl | rfl | rfl | rfl | rfl | rfl | rfl | rfl | rfl | rfl | rfl | rfl<;>first | rfl | assumption
section
variable {V:Nat→bO} {k n:Nat} {s:Int} {d d':List UInt8} {bs ws:List BX} {L:List Fact} {m mm md:Cl} {X:Nd} {y x:BX} {b:bO} {H:List LX}
theorem KE (hc: ∀ y∈bs,y.b.evs.length≤y.c) (y:BX) (hy:y∈bs):zi (dU bs) y:=⟨Ro.bG (List.mem_map.2 ⟨y,hy,rfl⟩),hc y hy⟩
theorem QG (h:bs.map BX.b=vB V) (hk:k<4): ∃ y,bs[k]? =some y∧y.b=V k:=by
 have hl:bs.length=4:=by have:=congrArg List.length h;simpa [vB] using this
 refine ⟨bs[k],List.getElem?_eq_getElem (by omega),?_⟩;have h1:(bs.map BX.b)[k]? =some (bs[k]).b:=by rw [List.getElem?_map,List.getElem?_eq_getElem (by omega)];rfl
 rw [h] at h1;have h2:k=0∨k=1∨k=2∨k=3:=by omega
 rcases h2 with rfl | rfl | rfl | rfl<;>(simp only [vB] at h1;exact (Option.some.inj h1).symm)
theorem alk:vB V=vB (fun j=>if j<0∧(V j).role=1 then (eO (V j)).1 else V j):=xZ fun j _=>by rw [if_neg (by omega)]
theorem Ya (h: ¬ (V k).role=1):vB (fun j=>if j<k∧(V j).role=1 then (eO (V j)).1 else V j)=vB (fun j=>if j<k+1∧(V j).role=1 then (eO (V j)).1 else V j):=xZ fun j _=>by
 by_cases e:j=k
 ·subst e;rw [if_neg (fun h'=>h h'.2),if_neg (fun h'=>h h'.2)]
 by_cases e2:j<k∧(V j).role=1
 ·rw [if_pos e2,if_pos ⟨by omega,e2.2⟩]
 rw [if_neg e2,if_neg (fun h'=>e2 ⟨by omega,h'.2⟩)]
theorem Yb (hk:k<4) (hr:(V k).role=1) (hb:(eO (V k)).1=b):(vB (fun j=>if j<k∧(V j).role=1 then (eO (V j)).1 else V j)).set k b=vB (fun j=>if j<k+1∧(V j).role=1 then (eO (V j)).1 else V j):=by
 rw [QB hk];refine xZ fun j _=>?_
 by_cases e:j=k
 ·subst e;rw [upd_same,if_pos ⟨by omega,hr⟩,hb]
 rw [upd_ne e];by_cases e2:j<k∧(V j).role=1
 ·rw [if_pos e2,if_pos ⟨by omega,e2.2⟩]
 rw [if_neg e2,if_neg (fun h'=>e2 ⟨by omega,h'.2⟩)]
theorem Yc {r:List Nat} (h: ¬ (V k).role=1):dV s V (k::r) d=dV s V r d:=by rw [dV,if_pos h]
theorem Yd {r:List Nat} (h:(V k).role=1) (h1:(eO (V k)).2=0) (h2:eD d s [fq 2 k (V k).ep 0 bU]=some d'):dV s V (k::r) d=dV s V r d':=by
 rw [dV,if_neg (fun e=>e h),if_neg (fun e=>e h1),h2]
theorem abI {r:List Nat} (h:(V k).role=1) (h1: ¬ (eO (V k)).2=0):dV s V (k::r) d=none:=by rw [dV,if_neg (fun e=>e h),if_pos h1]
theorem abJ {r:List Nat} (h:(V k).role=1) (h2:eD d s [fq 2 k (V k).ep 0 bU]=none):dV s V (k::r) d=none:=by
 rw [dV,if_neg (fun e=>e h)]
 split
 ·rfl
 rw [h2]
theorem Gv: ∀ {ql:List Nat} {d d':List UInt8},dV s V ql d=some d'→ ∀ q∈ql,(V q).role=1→au (ny (V q))=0∧eO (V q)=(ny (V q),0)
 | [],d,d',h,q,hq,_=>by simp at hq
 | k::r,d,d',h,q,hq,hr=>by
  rw [dV] at h;by_cases c1:(V k).role≠1
  ·rw [if_pos c1] at h
   rcases List.mem_cons.1 hq with rfl | hq
   ·exact absurd hr c1
   exact Gv h q hq hr
  rw [if_neg c1] at h;by_cases c2:(eO (V k)).2≠0
  ·rw [if_pos c2] at h;cases h
  rw [if_neg c2] at h
  split at h
  ·cases h
  rcases List.mem_cons.1 hq with rfl | hq
  ·exact U1 hr c2
  exact Gv h q hq hr
theorem Ye (h:dV s V [0,1,2,3] d=some d') (q:Nat) (hq:q<4):(V q).role=1→au (ny (V q))=0∧eO (V q)=(ny (V q),0):=Gv h q (by
 have h2:q=0∨q=1∨q=2∨q=3:=by omega
 rcases h2 with rfl | rfl | rfl | rfl<;>decide)
theorem abK (hw:(V k).role=1→au (ny (V k))=0∧eO (V k)=(ny (V k),0)) (hx:x.b=if k<4∧(V k).role=1 then (eO (V k)).1 else V k) (hr: ¬ x.b.role=1): ¬ (V k).role=1:=fun e=>hr (by
 rw [hx]
 split
 ·rw [(hw e).2];rfl
 exact e)
theorem abL (hx:x.b=if k<4∧(V k).role=1 then (eO (V k)).1 else V k) (hr:x.b.role=1):(V k).role=1:=by
 by_cases c:(V k).role=1
 ·exact c
 rw [hx,if_neg (fun h=>c h.2)] at hr;exact hr
theorem TM {r:List Nat} (h: ¬ (V k).role=1):Cl.woken n V (k::r) mm=Cl.woken n V r mm:=by rw [Cl.woken,if_pos h]
theorem TN {r:List Nat} (h:(V k).role=1) (hm:md=((mm.recover n k).dS n k (eO (V k)).1).tell n k bU gF (-1)):Cl.woken n V (k::r) mm=Cl.woken n V r md:=by rw [Cl.woken,if_neg (fun e=>e h),hm]
theorem Yf {q:Nat} (hX:mm.av n=X):(mm.dS n q b).tell n q bU gF (-1)={ mm.put n (X.dS q b) with aH:=mm.aH++[⟨n,q,b.ep,bU,gF,-1⟩],shown:=ni mm.shown n q (b.ep,(b.evs.length:Int)) }:=by
 subst hX;have e:((mm.dS n q b).av n).bs q=b:=by
  show (upd mm.av n _ n).bs q=b
  rw [upd_same];exact upd_same _ _ _
 unfold Cl.tell;rw [e];rfl
theorem afF (h: ∀ q,q<4→au (X.bs q)=0) (hb:au b=0) (j:Nat) (hj:j<4):au ((X.dS k b).bs j)=0:=by
 show au (upd X.bs k b j)=0
 by_cases e:j=k
 ·rw [e,upd_same];exact hb
 rw [upd_ne e];exact h j hj
theorem Fy {f:Nat→Nat→Int×Int} {a q:Nat} {e:Int} {l:List Ev} (h: ∀ a b,0≤(f a b).2) (i j:Nat):0≤(ni f a q (e,(l.length:Int)) i j).2:=by
 unfold ni
 split
 ·exact Int.natCast_nonneg _
 exact h i j
theorem Da (m:Cl) (n q:Nat) (h: ∀ a b,0≤(m.shown a b).2):(m.recover n q).av=m.av∧(m.recover n q).fly=m.fly∧ ∀ a b,0≤((m.recover n q).shown a b).2:=by
 have tl: ∀ (m:Cl) e a u,(∀ a b,0≤(m.shown a b).2)→ ∀ i j,0≤((m.tell n q e a u).shown i j).2:=fun m e a u h=>Fy h
 have rc: ∀ (il:List Nat) (m:Cl) evs an,(∀ a b,0≤(m.shown a b).2)→(m.recovered n q evs an il).av=m.av∧(m.recovered n q evs an il).fly=m.fly∧ ∀ i j,0≤((m.recovered n q evs an il).shown i j).2:=by
  intro il
  induction il with
  | nil=>intro m evs an h;exact ⟨rfl,rfl,h⟩
  | cons i r ih=>
   intro m evs an h;rw [Cl.recovered];exact ih _ evs an (tl m _ _ _ h)
 unfold Cl.recover
 split
 ·exact ⟨rfl,rfl,tl m _ _ _ h⟩
 exact rc _ m _ _ h
theorem abM (h:(m.av n).up=true):m.start n=m:=if_pos h
theorem OL (hX:m.av n=X) (hu:X.up=false) (h:dV (jf X.data X.syn).2.1 (bQ X.data X.syn) [0,1,2,3] (jf X.data X.syn).1=none):m.start n=m:=by
 subst hX;unfold Cl.start;rw [if_neg (by rw [hu];simp),h]
theorem Yg (hX:m.av n=X) (hu:X.up=false) (h:dV (jf X.data X.syn).2.1 (bQ X.data X.syn) [0,1,2,3] (jf X.data X.syn).1=some d):
  m.start n=Cl.woken n (bQ X.data X.syn) [0,1,2,3] (m.put n { X.blank with up:=true,data:=d,syn:=((d.length:Nat):Int),bs:=bQ X.data X.syn }):=by
 subst hX;unfold Cl.start;rw [if_neg (by rw [hu];simp),h]
def hwl (ws:List BX):List LX:=ws.map fun y=>⟨{ evs:=y.b.evs },y.A,y.c⟩
theorem alm (h: ∀ u∈hwl ws++H,MF L u) (hx:ws[k]? =some x):zi L x:=h ⟨{ evs:=x.b.evs },x.A,x.c⟩ (List.mem_append_left _ (List.mem_map.2 ⟨x,List.mem_of_getElem? hx,rfl⟩))
theorem afG {P:LX→Prop} (h: ∀ y∈ws,P ⟨{ evs:=y.b.evs },y.A,y.c⟩): ∀ u∈hwl ws++H,u∈H∨P u:=fun u hu=>(List.mem_append.1 hu).elim (fun h1=>by obtain ⟨y,hy,rfl⟩:=List.mem_map.1 h1;exact .inr (h y hy)) .inl
theorem zi.more {N:List Fact} (h:zi L x):zi (L++N) x:=h.mono fun _ hf=>List.mem_append_left _ hf
theorem abN {K:CK} {B:Nat} {w0 w:World} {fs:List Fact} (h:Wd K B w0 w fs m (hwl ws++H)):Wd K B w0 w fs m H:=by
 obtain ⟨R,G,S⟩:=h;exact ⟨R,⟨G.fly,G.Z0,G.lC,G.arr,fun u hu=>G.hld u (List.mem_append_right _ hu)⟩,S⟩
theorem awE {E N Ls:List Fact} {f:Fact} (h:f∈E):f∈L++((E++N)++Ls):=List.mem_append_right _ (List.mem_append_left _ (List.mem_append_left _ h))
theorem awF {E Ls:List Fact} {f:Fact} (h:f∈E):f∈L++(E++Ls):=List.mem_append_right _ (List.mem_append_left _ h)
end
theorem Qe {K:CK} {B n kn kw:Nat} {w0 w:World} {fs:List Fact} {m:Cl} {H:List LX} (hn:n<5) (hkn:K.nb n=kn) (bR:K.wb=kw) (hu:Uk B w0) (hB1:m.fly.length≤1000000000) (hB2:m.aH.length≤900000000000) (HW:Wd K B w0 w fs m H) (hT:Ad (m.av n).data (m.av n).syn=some (vB (bQ (m.av n).data (m.av n).syn))) (hvv: ∀ q,q<4→au (bQ (m.av n).data (m.av n).syn q)=0) (hbz:(sK (jf (m.av n).data (m.av n).syn).1 (jf (m.av n).data (m.av n).syn).2.1).1.length*80≤reachBytes) (hmay: ∀ d,dV (jf (m.av n).data (m.av n).syn).2.1 (bQ (m.av n).data (m.av n).syn) [0,1,2,3] (jf (m.av n).data (m.av n).syn).1=some d→cu d (jf (m.av n).data (m.av n).syn).2.1=true) (hsh: ∀ a b,0≤(m.shown a b).2):
    Calls Tryz.prog 74 #[pV kw 0,pV kn 0] w (fun e w'=>e= .returned (.tuple #[])∧Wd K B w0 w' fs (m.start n) H):=by
 obtain ⟨R,G,S0⟩:=HW.open hn;have hfl:R.fx.length=m.fly.length:=by rw [←G.fly,List.length_map]
 have NG:=G.lC n hn;obtain ⟨X,hX⟩: ∃ X,m.av n=X:=⟨_,rfl⟩;obtain ⟨z,hz⟩: ∃ z,R.nx n=z:=⟨_,rfl⟩;rw [hX,hz] at S0 NG;have hL: ∀ f∈R.L,f∈eZ K R m fs n:=fun f h=>List.mem_append_right _ (List.mem_append_right _ h)
 obtain ⟨rr,hrr⟩: ∃ r,eZ K R m fs n=r:=⟨_,rfl⟩;rw [hrr] at S0 hL;have S:St B w0 w ((.blk kn (aU n X.up (.slice z.tA X.data.length z.tc) X.syn (.slice (aD z.bb 0) 4 4) X.hints X.sure (.slice z.iA z.ix.length z.ic) (z.pv) X.turn) 129)::(.own 42 6 (.slice (aD z.bb 0) 4 4) 4 ((z.bx).flatMap BX.cells))::(.off 169 23 z.iA z.ix.length z.ic ((z.ix).flatMap LX.cells))::(.blk kw (bL (.slice R.nA 5 R.nc) m.off (.slice R.fA R.fx.length R.fc) m.shown (.slice R.sA m.aH.length R.sc) (.slice R.tA m.aM.length R.tc) m.calls) 121)::(.own 169 23 (.slice R.fA R.fx.length R.fc) R.fx.length ((R.fx).flatMap LX.cells))::(.own 85 14 (.slice R.sA m.aH.length R.sc) m.aH.length ((m.aH).flatMap eT.cells))::(.own 81 7 (.slice R.tA m.aM.length R.tc) m.aM.length ((m.aM).flatMap fK.cells))::rr):=by subst hkn;subst bR;exact S0
 clear S0 HW;have hlen:=(S.own 1 rfl).1;rw [gL (sz:=6) (fun _=>rfl)] at hlen;have awG:z.pv.oneCell'=true:=abH NG.zN;obtain ⟨P1,hP1⟩: ∃ r,jf X.data X.syn=r:=⟨_,rfl⟩;rw [hX] at hT hvv hbz hmay;have HRd:=fun w h=>Eu z.tA z.tc X.data X.syn w h hT hbz
 rw [hP1] at HRd hmay;refine fE 113 Tryz.func74 ?_;refine cw [0,1] ?_;iterate 9 refine zQ ?_
 cases hb1:(X.up)
 ·refine bq (l':=[(0,pV kw 0),(1,pV kn 0),(18,.bool false)]) ⟨rfl,rfl,rfl,trivial⟩ (kQ rfl (oU (gJ (aW (aO (vm ?_))))));iterate 2 refine zQ ?_
  refine vv (aj rfl rfl (aG (cs:=[.slice z.tA X.data.length z.tc,iV X.syn]) Tryz.underlying125 rfl dX rfl (St.rg 0 S rfl (qy)))) ?_;refine dO alG (HRd _ (NG.vO.rd S (memT 7 rfl hL))) ?_;rintro _ w9 ⟨A2,c3,bB,bs,hbm,hbl,hbc,rfl,T8⟩;refine ⟨_,rfl,?_⟩;have jE:=S.ext T8 (by simp [Gu,Fact.Ew]);have jQ:St B w0 w9 ((.own 42 6 (.slice (aD bB 0) 4 4) 4 ((bs).flatMap BX.cells))::(.bG 1 A2 P1.1.length (byteCells P1.1))::(.blk kn (aU n X.up (.slice z.tA X.data.length z.tc) X.syn (.slice (aD z.bb 0) 4 4) X.hints X.sure (.slice z.iA z.ix.length z.ic) (z.pv) X.turn) 129)::(.own 42 6 (.slice (aD z.bb 0) 4 4) 4 ((z.bx).flatMap BX.cells))::(.off 169 23 z.iA z.ix.length z.ic ((z.ix).flatMap LX.cells))::(.blk kw (bL (.slice R.nA 5 R.nc) m.off (.slice R.fA R.fx.length R.fc) m.shown (.slice R.sA m.aH.length R.sc) (.slice R.tA m.aM.length R.tc) m.calls) 121)::(.own 169 23 (.slice R.fA R.fx.length R.fc) R.fx.length ((R.fx).flatMap LX.cells))::(.own 85 14 (.slice R.sA m.aH.length R.sc) m.aH.length ((m.aH).flatMap eT.cells))::(.own 81 7 (.slice R.tA m.aM.length R.tc) m.aM.length ((m.aM).flatMap fK.cells))::(rr++dU bs)):=St.perm jE (List.Perm.cons _ (List.Perm.cons _ (List.perm_append_comm (l₁:=dU bs))));clear S;iterate 3 refine zQ ?_
  refine eU jQ wZ ?_;intro b12 CG jH;refine stA 0 jH dX ?_;intro FR jR;iterate 6 refine zQ ?_
  refine dO aoU (Jb _ 4 4 (bs.flatMap BX.cells) _ (St.ord 1 jR rfl) (afh _) (by decide)) ?_;rintro _ Bh ⟨IW,c18,rfl,awH,awI⟩;refine ⟨_,rfl,?_⟩;have ig:=jR.rU awH awI;obtain ⟨wB,hWA⟩:=BK (ig.own 0 rfl) (by decide);subst hWA;iterate 8 refine zQ ?_
  refine eU ig apF ?_;intro xX JU iX;refine stA 0 iX Zi ?_ (h1:=by exact aqp rfl rfl rfl awG);intro IQ qJ;iterate 6 refine zQ ?_
  refine iU (row':=aU n X.up (.slice A2 P1.1.length c3) P1.2.1 (.slice (aD z.bb 0) 4 4) X.hints X.sure (.slice z.iA z.ix.length z.ic) (z.pv) X.turn) 0 qJ dX ?_;intro VN sj;iterate 11 refine zQ ?_
  have tF:=sj.aR [2];have mF:St B w0 VN (_::_::_::_::_::_::_::_::_::_::((rr++dU bs)++[.bG 1 A2 P1.1.length (byteCells P1.1)])):=tF.toEnd 3 rfl;have pE:=mF.dM [9,9,9,9,9,9,9];refine fH (X:=Nat×(Option Addr)×Nat×(List UInt8)×(List BX)×(List Fact)) (fun xv=>[(0,pV kw 0),(1,pV kn 0),(5,.slice (aD bB 0) 4 4),(6,.slice (aD wB 0) 4 c18),(7,pV xX 0),(34,.slice (aD bB 0) 4 4),(35,iV 4),(36,iV ((xv.1:Nat):Int))]) (fun xv wr=>(xv.1≤4)∧(dV P1.2.1 (bQ X.data X.syn) [0,1,2,3] P1.1=dV P1.2.1 (bQ X.data X.syn) ((List.range 4).drop xv.1) xv.2.2.2.1)∧(xv.2.2.2.2.1.map BX.b=vB (fun j=>if j<xv.1∧((bQ X.data X.syn) j).role=1 then (eO ((bQ X.data X.syn) j)).1 else (bQ X.data X.syn) j))∧(∀ y∈xv.2.2.2.2.1,zi (dU bs++xv.2.2.2.2.2) y)∧(Ro xv.2.2.2.2.2 1 xv.2.1 xv.2.2.2.1.length (byteCells xv.2.2.2.1))∧St B w0 wr ((.blk kn (aU n X.up (.slice z.tA X.data.length z.tc) X.syn (.slice (aD z.bb 0) 4 4) X.hints X.sure (.slice z.iA z.ix.length z.ic) (z.pv) X.turn) 129)::(.own 42 6 (.slice (aD z.bb 0) 4 4) 4 ((z.bx).flatMap BX.cells))::(.off 169 23 z.iA z.ix.length z.ic ((z.ix).flatMap LX.cells))::(.blk kw (bL (.slice R.nA 5 R.nc) m.off (.slice R.fA R.fx.length R.fc) m.shown (.slice R.sA m.aH.length R.sc) (.slice R.tA m.aM.length R.tc) m.calls) 121)::(.own 169 23 (.slice R.fA R.fx.length R.fc) R.fx.length ((R.fx).flatMap LX.cells))::(.own 85 14 (.slice R.sA m.aH.length R.sc) m.aH.length ((m.aH).flatMap eT.cells))::(.own 81 7 (.slice R.tA m.aM.length R.tc) m.aM.length ((m.aM).flatMap fK.cells))::(.blk xX (aU n X.up (.slice xv.2.1 xv.2.2.2.1.length xv.2.2.1) P1.2.1 (.slice (aD z.bb 0) 4 4) X.hints X.sure (.slice z.iA z.ix.length z.ic) (z.pv) X.turn) 129)::(.own 42 6 (.slice (aD wB 0) 4 c18) 4 ((xv.2.2.2.2.1).flatMap BX.cells))::(.own 42 6 (.slice (aD bB 0) 4 4) 4 ((bs).flatMap BX.cells))::((rr++dU bs)++xv.2.2.2.2.2))) (fun xv=>4-xv.1) (0,A2,c3,P1.1,bs,[.bG 1 A2 P1.1.length (byteCells P1.1)]) ?_ ?_ ?_
  ·exact ⟨Nat.zero_le _,rfl,(by rw [hbm];exact alk),(fun y hy=>(KE hbc y hy).mono fun f hf=>List.mem_append_left _ hf),(Ro.bG (List.mem_singleton.2 rfl)),pE⟩
  ·exact ⟨rfl,rfl,rfl,rfl,rfl,rfl,rfl,rfl,trivial⟩
  rintro ⟨k,A9,c9,d9,ws,N9⟩ Qp ⟨aiA,Nl,RF,acQ,Nb,oD⟩
  try dsimp only at aiA Nl RF acQ Nb oD
  refine bq (l':=[(0,pV kw 0),(1,pV kn 0),(5,.slice (aD bB 0) 4 4),(6,.slice (aD wB 0) 4 c18),(7,pV xX 0),(34,.slice (aD bB 0) 4 4),(35,iV 4),(36,iV ((k:Nat):Int))]) ⟨rfl,rfl,rfl,rfl,rfl,rfl,rfl,rfl,trivial⟩ (aW (aO ?_));by_cases h40:((k:Nat):Int)<4
  ·iterate 10 refine zQ ?_
   have hk4:k<4:=by omega
   obtain ⟨y,hy,U4⟩:=QG hbm hk4;have qZ:=KE hbc y (List.mem_of_getElem? hy);obtain ⟨y0,hy0,_⟩:=QG RF hk4;have hlw:ws.length=4:=by have:=congrArg List.length RF;simpa [vB] using this
   have hvk:=hvv k hk4;have hln:=jC (iO hvk);have wR:y.b.evs.length*48≤reachBytes:=by rw [U4];unfold reachBytes;omega
   have Iu:=uZ hvk;iterate 2 refine zQ ?_
   refine vv (gM k) ?_;refine vv (aj rfl rfl (aG (cs:=BX.cells y) Tryz.underlying42 rfl aC rfl (Rd.uN (St.ord 9 oD rfl) (fun _ _ h=>bS (enc:=BX.cells) (sz:=6) (fun _=>rfl) hy h)))) ?_;refine eU oD dK ?_;intro b41 Ux tu;refine zQ ?_;refine stA 0 tu aC ?_;intro L9 mW;iterate 7 refine zQ ?_
   by_cases h46:y.b.role=1
   ·iterate 7 refine zQ ?_
    obtain ⟨BR,oz⟩: ∃ r,eO y.b=r:=⟨_,rfl⟩;have HP:=fun w h=>Tg y.b.role y.b.ep y.b.fr y.b.tg y.b.rd y.A y.c y.b.evs w h wR
    rw [show eO ⟨y.b.role,y.b.ep,y.b.fr,y.b.tg,y.b.rd,y.b.evs⟩=BR from oz] at HP;iterate 2 refine zQ ?_
    refine dO aoV (HP _ (qZ.1.rd mW (memT 11 rfl (fun f hf=>List.mem_append_left _ (List.mem_append_right _ hf))))) ?_;rintro _ Qw ⟨IU,Xt,aqr,rfl,T52⟩;refine ⟨_,rfl,?_⟩;have sw:=mW.ext T52 rfl;iterate 3 refine zQ ?_
    refine eU sw dK ?_;intro b53 w54 xk;refine stA 0 xk aC ?_;intro w56 sF;iterate 7 refine zQ ?_
    refine cab EN sF (iC 2 k y _) ?_;intro ZG uQ;refine eU uQ uW ?_;intro b61 VY uO;refine stA 0 uO jG ?_;intro GZ xV;iterate 4 refine zQ ?_
    refine vv (v:= .agg #[iV 4,iV 0,iV 0,iV 0,iV 0,iV 0]) gZ ?_;refine zQ ?_;refine iU (row':= #[iV 2,iV ((k:Nat):Int),iV y.b.ep,iV 0,iV 4,iV 0,iV 0,iV 0,iV 0,iV 0]) 0 xV jT ?_;intro NP oN;iterate 4 refine zQ ?_
    by_cases hB:BR.2=0
    ·rcases acR:eD d9 P1.2.1 [fq 2 k y.b.ep 0 bU] with _ | awJ
     ·iterate 5 refine zQ ?_
      refine gV (V:=fun b=> .slice (aD b 0) 1 1) (row:= #[iV 2,iV ((k:Nat):Int),iV y.b.ep,iV 0,iV 4,iV 0,iV 0,iV 0,iV 0,iV 0]) (t:=205) oN (wg rfl rfl rfl rfl) rfl rfl (aK (vs:=[(0,.agg #[iV 2,iV ((k:Nat):Int),iV y.b.ep,iV 0,iV 4,iV 0,iV 0,iV 0,iV 0,iV 0])]) rfl ⟨rfl,rfl,trivial⟩ (by kernel_rfl)) ?_;intro b70 w71 Cz;have qL:=Cz.dM [12];refine qB Dk (Ji (rs:=[fq 2 k y.b.ep 0 bU]) acR (Ro.blk (List.mem_iff_getElem?.2 ⟨0,rfl⟩) rfl rfl) Nb (by exact memT 14 rfl fun f hf=>List.mem_append_right _ hf) (Nat.le_of_ble_eq_true rfl) qL) ?_;rintro _ w78 ⟨rfl,Aq⟩;refine ⟨_,rfl,?_⟩;iterate 13 refine zQ ?_
      have xG:=Aq.aR [14,13,5,4,3,2,1,0];have pF:=(xG).MH.MH;have hr1:((bQ X.data X.syn) k).role=1:=by rw [←U4];omega
      have oZ:m.start n=m:=OL hX (by assumption) (by rw [hP1,Nl,lT hk4];exact abJ hr1 (by rw [←U4];exact acR));rw [oZ];exact ⟨rfl,Wd.dw (X':=X) (z':=z) (Ls:=[]) (fA:=R.fA) (fc:=R.fc) (fx:=R.fx) (sA:=R.sA) (sc:=R.sc) (tA:=R.tA) (tc:=R.tc) hkn bR hrr G hn pF NG.more (fun u hu=> .inl hu) (aQ hX).symm G.fly.symm mI⟩
     iterate 5 refine zQ ?_
     refine gV (V:=fun b=> .slice (aD b 0) 1 1) (row:= #[iV 2,iV ((k:Nat):Int),iV y.b.ep,iV 0,iV 4,iV 0,iV 0,iV 0,iV 0,iV 0]) (t:=205) oN (wg rfl rfl rfl rfl) rfl rfl (aK (vs:=[(0,.agg #[iV 2,iV ((k:Nat):Int),iV y.b.ep,iV 0,iV 4,iV 0,iV 0,iV 0,iV 0,iV 0])]) rfl ⟨rfl,rfl,trivial⟩ (by kernel_rfl)) ?_;intro b82 w83 CJ;have Bl:=CJ.dM [12];refine qB Dk (Jj (rs:=[fq 2 k y.b.ep 0 bU]) acR (Ro.blk (List.mem_iff_getElem?.2 ⟨0,rfl⟩) rfl rfl) Nb (by exact memT 14 rfl fun f hf=>List.mem_append_right _ hf) (Nat.le_of_ble_eq_true rfl) Bl) ?_;rintro _ VQ ⟨A86,c87,N88,rfl,aqs,rP⟩;refine ⟨_,rfl,?_⟩;iterate 11 refine zQ ?_
     refine vv (gM k) ?_;refine kJ (xs':=(ws.set k (⟨BR.1,IU,Xt⟩:BX)).flatMap BX.cells) 13 rP (wn rfl) rfl rfl rfl rfl rfl rfl aC rfl (bZ rfl) (by omega) (by rw [Nat.zero_add];exact oI (enc:=BX.cells) (sz:=6) (fun _=>rfl) (⟨BR.1,IU,Xt⟩:BX) _ _ (by omega)) ?_;intro w92 yR;have aDp:(ws.set k (⟨BR.1,IU,Xt⟩:BX))[k]? =some (⟨BR.1,IU,Xt⟩:BX):=List.getElem?_set_self (by omega);iterate 4 refine zQ ?_
     refine vv (v:=iV ((k+1:Nat):Int)) jv ?_;iterate 2 refine zQ ?_
     have Ef:=yR.aR [5,3,2,1];have Bn:St B w0 w92 (_::_::_::_::_::_::_::_::_::_::((((rr++dU bs)++N9)++N88)++[.bG 6 IU BR.1.evs.length ((BR.1.evs).flatMap Ev.cells)])):=Ef.toEnd 1 rfl;have uP:=Bn.dM [7,7,7,7,7,7,7];have Aw:=uP;have hr1:((bQ X.data X.syn) k).role=1:=by rw [←U4];omega
     have hap:((((rr++dU bs)++N9)++N88)++[.bG 6 IU BR.1.evs.length ((BR.1.evs).flatMap Ev.cells)])=((rr++dU bs)++(N9++(N88++[.bG 6 IU BR.1.evs.length ((BR.1.evs).flatMap Ev.cells)]))):=by simp only [List.append_assoc]
     rw [hap] at Aw;refine bY (k+1,A86,c87,awJ,ws.set k (⟨BR.1,IU,Xt⟩:BX),N9++(N88++[.bG 6 IU BR.1.evs.length ((BR.1.evs).flatMap Ev.cells)])) ?_ ⟨rfl,rfl,rfl,rfl,rfl,rfl,rfl,rfl,trivial⟩ (by first | omega | (dsimp only;omega));exact ⟨(by dsimp only;omega),(by dsimp only;rw [Nl,lT hk4];exact Yd hr1 (by rw [←U4,oz];exact hB) (by rw [←U4];exact acR)),(by dsimp only;rw [List.map_set,RF];exact Yb hk4 hr1 (by rw [←U4,oz])),(Bt (fun u hu=>(acQ u hu).mono (fun f hf=>(List.mem_append.1 hf).elim (fun h=>List.mem_append_left _ h) fun h=>List.mem_append_right _ (List.mem_append_left _ h))) ⟨Ro.bG (List.mem_append_right _ (List.mem_append_right _ (List.mem_append_right _ (List.mem_singleton.2 rfl)))),aqr⟩),(aqs.mono (fun f hf=>(List.mem_append.1 hf).elim (fun h=>List.mem_append_left _ h) fun h=>List.mem_append_right _ (List.mem_append_left _ h))),Aw⟩
    iterate 20 refine zQ ?_
    have VR:=oN.aR [13,12,11,3,2,1,0];have oJ:=(VR).MH.MH;have hr1:((bQ X.data X.syn) k).role=1:=by rw [←U4];omega
    have oZ:m.start n=m:=OL hX (by assumption) (by rw [hP1,Nl,lT hk4];exact abI hr1 (by rw [←U4,oz];exact hB));rw [oZ];exact ⟨rfl,Wd.dw (X':=X) (z':=z) (Ls:=[]) (fA:=R.fA) (fc:=R.fc) (fx:=R.fx) (sA:=R.sA) (sc:=R.sc) (tA:=R.tA) (tc:=R.tc) hkn bR hrr G hn oJ NG.more (fun u hu=> .inl hu) (aQ hX).symm G.fly.symm mI⟩
   iterate 9 refine zQ ?_
   refine vv (v:=iV ((k+1:Nat):Int)) jv ?_;iterate 2 refine zQ ?_
   have sG:=mW.aR [0];have pG:=sG;have hro: ¬ ((bQ X.data X.syn) k).role=1:=by rw [←U4];assumption
   refine bY (k+1,A9,c9,d9,ws,N9) ?_ ⟨rfl,rfl,rfl,rfl,rfl,rfl,rfl,rfl,trivial⟩ (by first | omega | (dsimp only;omega));exact ⟨(by dsimp only;omega),(by dsimp only;rw [Nl,lT hk4];exact Yc hro),(by dsimp only;rw [RF];exact Ya hro),acQ,Nb,pG⟩
  iterate 15 refine zQ ?_
  refine iU (row':=aU n true (.slice z.tA X.data.length z.tc) X.syn (.slice (aD z.bb 0) 4 4) X.hints X.sure (.slice z.iA z.ix.length z.ic) (z.pv) X.turn) 0 oD EM ?_;intro ab8 qG;iterate 5 refine zQ ?_
  refine dO MS (lY qG hu) ?_;rintro _ Wj ⟨rfl,aqt,wo⟩;refine ⟨_,rfl,?_⟩;have rC:=wo.aR [3,2,1];iterate 6 refine zQ ?_
  refine vv (aj rfl rfl (aG (cs:=[.slice A9 d9.length c9,iV P1.2.1]) Tryz.underlying125 rfl dX rfl (St.rg 5 rC rfl (qy)))) ?_;have hwA:dV P1.2.1 (bQ X.data X.syn) [0,1,2,3] P1.1=some d9:=by rw [Nl,List.drop_eq_nil_of_le (by rw [List.length_range];omega)];rfl
  have C8:=fun w h=>yI (nE A9 d9.length c9 d9 P1.2.1 w h)
  rw [vU (hmay _ hwA)] at C8;refine dO MU (C8 _ (Nb.rd rC (memT 8 rfl fun f hf=>List.mem_append_right _ hf))) ?_;rintro _ Q7 ⟨Kj,Nh,rfl,awK⟩;refine ⟨_,rfl,?_⟩;have sH:=rC.ext awK rfl;iterate 5 refine zQ ?_
  refine iU (row':=aU n true (.slice Kj d9.length Nh) ((d9.length:Nat):Int) (.slice (aD aqt 0) 4 4) (fun _=>nowhere) (fun _=>false) (.slice none 0 0) (.nilFunc) X.turn) 1 sH dX ?_;intro V6 ko;iterate 8 refine zQ ?_
  refine iU (row':=aU n true (.slice Kj d9.length Nh) ((d9.length:Nat):Int) (.slice (aD bB 0) 4 4) (fun _=>nowhere) (fun _=>false) (.slice none 0 0) (.nilFunc) X.turn) 1 ko Yz ?_;intro ahr tT;iterate 10 refine zQ ?_
  have hwA:dV P1.2.1 (bQ X.data X.syn) [0,1,2,3] P1.1=some d9:=by rw [Nl,List.drop_eq_nil_of_le (by rw [List.length_range];omega)];rfl
  have awL:k=4:=by omega
  have hsp:=RF;rw [awL] at hsp;have uI:=tT.aR [6];have kX:=uI.zH 169 23;have oM:=(((((((((kX.bring 7 rfl).bring 2 rfl).bring 7 rfl).bring 7 rfl).bring 7 rfl).bring 7 rfl).bring 6 rfl).bring 8 rfl).bring 8 rfl);rw [show ((rr++dU bs)++N9)=(rr++(dU bs++N9)) from List.append_assoc ..] at oM;obtain ⟨m1,hm1⟩: ∃ k,k=m.put n { X.blank with up:=true,data:=d9,syn:=((d9.length:Nat):Int),bs:=(bQ X.data X.syn) }:=⟨_,rfl⟩;have HW1:Wd K B w0 ahr ((.own 42 6 (.slice (aD wB 0) 4 c18) 4 ((ws).flatMap BX.cells))::fs) m1 (hwl ws++H):=by
   rw [hm1];refine Wd.fin (m:=m) (fs:=(.own 42 6 (.slice (aD wB 0) 4 c18) 4 ((ws).flatMap BX.cells))::fs) (X':={ X.blank with up:=true,data:=d9,syn:=((d9.length:Nat):Int),bs:=(bQ X.data X.syn) }) (z':={ bb:=bB,tA:=Kj,tc:=Nh,bx:=bs,iA:=none,ic:=0,ix:=[],pv:= .nilFunc }) (N:=dU bs++N9) (Ls:=[.bG 1 Kj d9.length (byteCells d9)]) (rr:=(.own 42 6 (.slice (aD wB 0) 4 c18) 4 ((ws).flatMap BX.cells))::rr) (H:=H) (fA:=R.fA) (fc:=R.fc) (fx:=R.fx) (sA:=R.sA) (sc:=R.sc) (tA:=R.tA) (tc:=R.tc) hkn bR (by rw [←hrr];rfl) G hn oM ⟨hbm,fun u hu=>(KE hbc u hu).mono (fun f hf=>awE hf),Ro.bG (qz (List.mem_singleton.2 rfl)),rfl,fun u hu=>by simp at hu,rfl⟩ (fun u hu=> .inl hu) rfl G.fly.symm ?_;exact afG fun y hy=>(acQ y hy).mono fun f hf=>awF hf
  have hwo:=Ye hwA;have an8:m1.av n={ X.blank with up:=true,data:=d9,syn:=((d9.length:Nat):Int),bs:=(bQ X.data X.syn) }:=by rw [hm1];exact bM _
  refine fH (X:=Nat×Cl) (fun xv=>[(0,pV kw 0),(1,pV kn 0),(85,.slice (aD wB 0) 4 c18),(86,iV 4),(87,iV ((xv.1:Nat):Int))]) (fun xv wr=>(Wd K B w0 wr ((.own 42 6 (.slice (aD wB 0) 4 c18) 4 ((ws).flatMap BX.cells))::fs) xv.2 (hwl ws++H))∧(Cl.woken n (bQ X.data X.syn) [0,1,2,3] m1=Cl.woken n (bQ X.data X.syn) ((List.range 4).drop xv.1) xv.2)∧(xv.1≤4)∧(xv.2.fly=m.fly)∧(∀ j,j<4→au ((xv.2.av n).bs j)=0)∧(∀ j,xv.1≤j→j<4→(xv.2.av n).bs j=(bQ X.data X.syn) j)∧(∀ a b,0≤(xv.2.shown a b).2)∧(xv.2.aH.length≤m.aH.length+2001*xv.1)∧St B w0 wr [.own 42 6 (.slice (aD wB 0) 4 c18) 4 ((ws).flatMap BX.cells)]) (fun xv=>4-xv.1) (0,m1) ?_ ?_ ?_
  ·exact ⟨HW1,rfl,Nat.zero_le _,by rw [hm1];rfl,fun j hj=>by dsimp only;rw [an8];exact hvv j hj,fun j _ _=>by dsimp only;rw [an8],fun a b=>by dsimp only;rw [hm1];exact hsh a b,by dsimp only;rw [hm1];exact Nat.le_refl _,Wd.uS (gs:=[.own 42 6 (.slice (aD wB 0) 4 c18) 4 ((ws).flatMap BX.cells)]) HW1⟩
  ·exact ⟨rfl,rfl,rfl,rfl,rfl,trivial⟩
  rintro ⟨k2,mm⟩ Xc ⟨YZ,RG,aqu,RH,IK,RI,RJ,aqv,zZ⟩
  try dsimp only at YZ RG aqu RH IK RI RJ aqv zZ
  refine bq (l':=[(0,pV kw 0),(1,pV kn 0),(85,.slice (aD wB 0) 4 c18),(86,iV 4),(87,iV ((k2:Nat):Int))]) ⟨rfl,rfl,rfl,rfl,rfl,trivial⟩ ?_;obtain ⟨R3,G3,QH⟩:=YZ.open hn;have OM:=G3.lC n hn;obtain ⟨X3,zq⟩: ∃ X,mm.av n=X:=⟨_,rfl⟩;obtain ⟨z3,hz3⟩: ∃ z,R3.nx n=z:=⟨_,rfl⟩;rw [zq,hz3] at QH OM;obtain ⟨U5,Fz⟩: ∃ r,eZ K R3 mm fs n=r:=⟨_,rfl⟩;have aDq:R3.fx.length=mm.fly.length:=by rw [←G3.fly,List.length_map]
  have oK:St B w0 Xc ((.blk kn (aU n X3.up (.slice z3.tA X3.data.length z3.tc) X3.syn (.slice (aD z3.bb 0) 4 4) X3.hints X3.sure (.slice z3.iA z3.ix.length z3.ic) (z3.pv) X3.turn) 129)::(.own 42 6 (.slice (aD z3.bb 0) 4 4) 4 ((z3.bx).flatMap BX.cells))::(.off 169 23 z3.iA z3.ix.length z3.ic ((z3.ix).flatMap LX.cells))::(.blk kw (bL (.slice R3.nA 5 R3.nc) mm.off (.slice R3.fA R3.fx.length R3.fc) mm.shown (.slice R3.sA mm.aH.length R3.sc) (.slice R3.tA mm.aM.length R3.tc) mm.calls) 121)::(.own 169 23 (.slice R3.fA R3.fx.length R3.fc) R3.fx.length ((R3.fx).flatMap LX.cells))::(.own 85 14 (.slice R3.sA mm.aH.length R3.sc) mm.aH.length ((mm.aH).flatMap eT.cells))::(.own 81 7 (.slice R3.tA mm.aM.length R3.tc) mm.aM.length ((mm.aM).flatMap fK.cells))::(.own 42 6 (.slice (aD wB 0) 4 c18) 4 ((ws).flatMap BX.cells))::U5):=by rw [←Fz];subst hkn;subst bR;exact QH
  clear QH;have hlen3:=(oK.own 1 rfl).1;rw [gL (sz:=6) (fun _=>rfl)] at hlen3;rw [zq] at IK RI;iterate 2 refine zQ ?_
  by_cases aDr:((k2:Nat):Int)<4
  ·iterate 10 refine zQ ?_
   have hk4:k2<4:=by omega
   obtain ⟨x,hx,hxs⟩:=QG hsp hk4;iterate 2 refine zQ ?_
   refine vv (gM k2) ?_;refine vv (aj rfl rfl (aG (cs:=BX.cells x) Tryz.underlying42 rfl aC rfl (Rd.uN (St.ord 7 oK rfl) (fun _ _ h=>bS (enc:=BX.cells) (sz:=6) (fun _=>rfl) hx h)))) ?_;refine eU oK dK ?_;intro aiB amN xO;refine zQ ?_;refine sa 0 xO aC ?_;intro Kh uJ;iterate 7 refine zQ ?_
   by_cases aDs:x.b.role=1
   ·iterate 11 refine zQ ?_
    have Dz:=uJ.dM [7,7,7,7,7,7,7];have aqw:=Wd.dw (m:=mm) (m':=mm) (H:=hwl ws++H) (H':=hwl ws++H) (fs:=(.blk aiB #[iV x.b.role,iV x.b.ep,iV x.b.fr,iV x.b.tg,iV x.b.rd,.slice x.A x.b.evs.length x.c] 42)::(.own 42 6 (.slice (aD wB 0) 4 c18) 4 ((ws).flatMap BX.cells))::fs) (X':=X3) (z':=z3) (Ls:=[]) (fA:=R3.fA) (fc:=R3.fc) (fx:=R3.fx) (sA:=R3.sA) (sc:=R3.sc) (tA:=R3.tA) (tc:=R3.tc) (rr:=(.blk aiB #[iV x.b.role,iV x.b.ep,iV x.b.fr,iV x.b.tg,iV x.b.rd,.slice x.A x.b.evs.length x.c] 42)::(.own 42 6 (.slice (aD wB 0) 4 c18) 4 ((ws).flatMap BX.cells))::U5) hkn bR (by rw [←Fz];rfl) G3 hn Dz OM.more (fun u hu=> .inl hu) (aQ zq).symm G3.fly.symm mI;refine dO aoW (FY hn hkn bR hu (by rw [RH];exact hB1) (by omega) hk4 aqw (by rw [zq];exact IK) (RJ n k2)) ?_;rintro _ al8 ⟨rfl,agY⟩;refine ⟨_,rfl,?_⟩;have Jw:=Da mm n k2 (RJ);have hrs:=(CU (n:=n) (q:=k2) mm (by rw [zq];exact jC (iO (IK k2 hk4)))).2;obtain ⟨mc,hmc⟩: ∃ k,k=mm.recover n k2:=⟨_,rfl⟩;rw [←hmc] at agY Jw hrs;obtain ⟨R5,G5,S05⟩:=agY.open hn;have NG5:=G5.lC n hn;obtain ⟨X5,hX5⟩: ∃ X,mc.av n=X:=⟨_,rfl⟩;obtain ⟨z5,hz5⟩: ∃ z,R5.nx n=z:=⟨_,rfl⟩;rw [hX5,hz5] at S05 NG5;obtain ⟨rr5,an9⟩: ∃ r,eZ K R5 mc fs n=r:=⟨_,rfl⟩;have aDt:R5.fx.length=mc.fly.length:=by rw [←G5.fly,List.length_map]
    have JN:St B w0 al8 ((.blk kn (aU n X5.up (.slice z5.tA X5.data.length z5.tc) X5.syn (.slice (aD z5.bb 0) 4 4) X5.hints X5.sure (.slice z5.iA z5.ix.length z5.ic) (z5.pv) X5.turn) 129)::(.own 42 6 (.slice (aD z5.bb 0) 4 4) 4 ((z5.bx).flatMap BX.cells))::(.off 169 23 z5.iA z5.ix.length z5.ic ((z5.ix).flatMap LX.cells))::(.blk kw (bL (.slice R5.nA 5 R5.nc) mc.off (.slice R5.fA R5.fx.length R5.fc) mc.shown (.slice R5.sA mc.aH.length R5.sc) (.slice R5.tA mc.aM.length R5.tc) mc.calls) 121)::(.own 169 23 (.slice R5.fA R5.fx.length R5.fc) R5.fx.length ((R5.fx).flatMap LX.cells))::(.own 85 14 (.slice R5.sA mc.aH.length R5.sc) mc.aH.length ((mc.aH).flatMap eT.cells))::(.own 81 7 (.slice R5.tA mc.aM.length R5.tc) mc.aM.length ((mc.aM).flatMap fK.cells))::(.blk aiB #[iV x.b.role,iV x.b.ep,iV x.b.fr,iV x.b.tg,iV x.b.rd,.slice x.A x.b.evs.length x.c] 42)::(.own 42 6 (.slice (aD wB 0) 4 c18) 4 ((ws).flatMap BX.cells))::rr5):=by rw [←an9];subst hkn;subst bR;exact S05
    clear S05;have aqx:=(JN.own 1 rfl).1;rw [gL (sz:=6) (fun _=>rfl)] at aqx;obtain ⟨y5,hy5,aDu,aDv⟩:=NG5.at_ hk4;iterate 3 refine zQ ?_
    have Rb:=JN.drew;refine fG 8 6 Rb [] ?_;iterate 6 refine iP ?_
    refine eF (by kernel_rfl) rfl rfl rfl ?_;refine vv (gM k2) ?_;refine kJ (xs':=(z5.bx.set k2 (⟨x.b,x.A,x.c⟩:BX)).flatMap BX.cells) 1 Rb (wn rfl) rfl rfl rfl rfl rfl rfl aC rfl (bZ rfl) (by omega) (by rw [Nat.zero_add];exact oI (enc:=BX.cells) (sz:=6) (fun _=>rfl) (⟨x.b,x.A,x.c⟩:BX) _ _ (by omega)) ?_;intro awM Fa;have hy153:(z5.bx.set k2 (⟨x.b,x.A,x.c⟩:BX))[k2]? =some (⟨x.b,x.A,x.c⟩:BX):=List.getElem?_set_self (by omega);refine zQ ?_;refine je ?_;iterate 5 refine zQ ?_
    refine vv (v:= .agg #[iV 4,iV 0,iV 0,iV 0,iV 0,iV 0]) gZ ?_;refine zQ ?_;refine dO EC (lX hn hk4 hy153 bU gF (-1) Fa (by omega)) ?_;rintro _ awN ⟨rfl,awO,awP,azj,aqy,awQ⟩;refine ⟨_,rfl,?_⟩;subst aqy;have Ke:=awQ.aR [7];have hr1:((bQ X.data X.syn) k2).role=1:=abL hxs (by omega);have hxb:x.b=ny ((bQ X.data X.syn) k2):=by rw [hxs,if_pos ⟨hk4,hr1⟩,(hwo k2 hk4 hr1).2]
    obtain ⟨md,hmd⟩: ∃ k,k=(mc.dS n k2 x.b).tell n k2 bU gF (-1):=⟨_,rfl⟩;have awR:md=((mm.recover n k2).dS n k2 (eO ((bQ X.data X.syn) k2)).1).tell n k2 bU gF (-1):=by rw [hmd,hmc,hxb,(hwo k2 hk4 hr1).2]
    have Yh:md={ mc.put n (X5.dS k2 x.b) with aH:=mc.aH++[⟨n,k2,x.b.ep,bU,gF,-1⟩],shown:=ni mc.shown n k2 (x.b.ep,(x.b.evs.length:Int)) }:=by rw [hmd];exact Yf hX5
    have awS:md.fly=mm.fly:=by rw [Yh];exact Jw.2.1
    have hnm:(mc.av n)=X3:=by rw [Jw.1,zq]
    have aoa:X5=X3:=by rw [←hX5];exact hnm
    have aob:md.av n=X5.dS k2 x.b:=by rw [Yh];exact bM _
    have awT: ∀ j,j<4→au ((md.av n).bs j)=0:=fun j hj=>by rw [aob];exact afF (by rw [aoa];exact IK) (by rw [hxb];exact (hwo k2 hk4 hr1).1) j hj
    have awU: ∀ j,k2+1≤j→j<4→(md.av n).bs j=(bQ X.data X.syn) j:=fun j h1 h2=>by rw [aob,aoa];exact (upd_ne (by omega)).trans (RI j (by omega) h2)
    have awV: ∀ a b,0≤(md.shown a b).2:=by rw [Yh];exact Fy (a:=n) (q:=k2) (e:=x.b.ep) (l:=x.b.evs) Jw.2.2
    have aDw:md.aH.length=mc.aH.length+1:=by rw [Yh];exact List.length_append ..
    clear hmd;have agZ:Wd K B w0 awN ((.own 42 6 (.slice (aD wB 0) 4 c18) 4 ((ws).flatMap BX.cells))::fs) md (hwl ws++H):=by
     rw [Yh];exact Wd.dw (m:=mc) (H:=hwl ws++H) (fs:=(.own 42 6 (.slice (aD wB 0) 4 c18) 4 ((ws).flatMap BX.cells))::fs) (X':=X5.dS k2 x.b) (z':={ z5 with bx:=z5.bx.set k2 (⟨x.b,x.A,x.c⟩:BX) }) (Ls:=[]) (fA:=R5.fA) (fc:=R5.fc) (fx:=R5.fx) (sA:=awO) (sc:=awP) (tA:=R5.tA) (tc:=R5.tc) (rr:=(.own 42 6 (.slice (aD wB 0) 4 c18) 4 ((ws).flatMap BX.cells))::rr5) hkn bR (by rw [←an9];rfl) G5 hn Ke (dz.agW (Y:=x) NG5.more hk4 (alm G5.hld hx).more) (fun u hu=> .inl hu) rfl G5.fly.symm mI
    iterate 4 refine zQ ?_
    refine vv (v:=iV ((k2+1:Nat):Int)) jv ?_;iterate 2 refine zQ ?_
    refine bY (k2+1,md) ?_ ⟨rfl,rfl,rfl,rfl,rfl,trivial⟩ (by first | omega | (dsimp only;omega));exact ⟨agZ,(by dsimp only;rw [RG,lT hk4];exact TN hr1 awR),(by dsimp only;omega),(by dsimp only;rw [awS];exact RH),(by dsimp only;exact awT),(by dsimp only;exact awU),(by dsimp only;exact awV),(by dsimp only;omega),(Wd.uS (gs:=[.own 42 6 (.slice (aD wB 0) 4 c18) 4 ((ws).flatMap BX.cells)]) agZ)⟩
   iterate 9 refine zQ ?_
   refine vv (v:=iV ((k2+1:Nat):Int)) jv ?_;iterate 2 refine zQ ?_
   have Fb:=uJ.aR [0];have RL:=Wd.dw (m:=mm) (m':=mm) (H:=hwl ws++H) (H':=hwl ws++H) (fs:=(.own 42 6 (.slice (aD wB 0) 4 c18) 4 ((ws).flatMap BX.cells))::fs) (X':=X3) (z':=z3) (Ls:=[]) (fA:=R3.fA) (fc:=R3.fc) (fx:=R3.fx) (sA:=R3.sA) (sc:=R3.sc) (tA:=R3.tA) (tc:=R3.tc) (rr:=(.own 42 6 (.slice (aD wB 0) 4 c18) 4 ((ws).flatMap BX.cells))::U5) hkn bR (by rw [←Fz];rfl) G3 hn Fb OM.more (fun u hu=> .inl hu) (aQ zq).symm G3.fly.symm mI;have hro: ¬ ((bQ X.data X.syn) k2).role=1:=abK (hwo k2 hk4) hxs (by assumption);refine bY (k2+1,mm) ?_ ⟨rfl,rfl,rfl,rfl,rfl,trivial⟩ (by first | omega | (dsimp only;omega));exact ⟨RL,(by dsimp only;rw [RG,lT hk4];exact TM hro),(by dsimp only;omega),RH,(by dsimp only;rw [zq];exact IK),(by dsimp only;rw [zq];exact fun j h1 h2=>RI j (by omega) h2),RJ,(by dsimp only;omega),(Wd.uS (gs:=[.own 42 6 (.slice (aD wB 0) 4 c18) 4 ((ws).flatMap BX.cells)]) RL)⟩
  iterate 10 refine zQ ?_
  have oZ:m.start n=mm:=by rw [Yg hX (by assumption) (by rw [hP1];exact hwA),←hm1,RG,List.drop_eq_nil_of_le (by rw [List.length_range];omega)];rfl
  rw [oZ];exact ⟨rfl,abN (Wd.less (gs:=[.own 42 6 (.slice (aD wB 0) 4 c18) 4 ((ws).flatMap BX.cells)]) YZ)⟩
 refine bq (l':=[(0,pV kw 0),(1,pV kn 0),(18,.bool true)]) ⟨rfl,rfl,rfl,trivial⟩ (kP rfl (nJ (fZ (dI (rs:=[]) (vs:=[]) rfl trivial ?_))));have oZ:m.start n=m:=abM (by rw [hX];assumption);rw [oZ];exact ⟨rfl,Wd.dw (X':=X) (z':=z) (Ls:=[]) (fA:=R.fA) (fc:=R.fc) (fx:=R.fx) (sA:=R.sA) (sc:=R.sc) (tA:=R.tA) (tc:=R.tc) hkn bR hrr G hn S NG.more (fun u hu=> .inl hu) (aQ hX).symm G.fly.symm mI⟩
section
variable {X:Nd} {m:Cl} {n k q:Nat} {p:gX}
theorem DK.nY (h:DK X): ∀ q,q<4→au (X.bs q)=0:=by
 rcases h with ⟨_,rs,us,h⟩ | ⟨_,rs,t,f,h⟩
 ·exact h.nY
 exact h.bz
theorem DK.tp (h:DK X): ∃ rs t f,X.data=bW rs++t∧(firstM t).2=0∧gT rs f∧(∀ q,q<4→au (f q)=0)∧X.data.length≤100000∧0≤X.syn∧X.syn≤X.data.length:=by
 rcases h with ⟨_,rs,us,h⟩ | ⟨_,rs,t,f,h⟩
 ·have hd:=h.data;have hl:=congrArg List.length hd;rw [kE,List.length_append] at hl;have hs:=h.syn
  cases hp:X.pend with
  | none=>
   have hu:=h.XA hp;refine ⟨rs,[],_,by rw [hd,hu,List.append_nil,List.append_nil],vM,h.tape,fun q hq=>(QD h.nY hq).1,h.len,by omega,by omega⟩
  | some p=>
   obtain ⟨h1,h2,h3⟩:=h.XB p hp;obtain ⟨h4,h5⟩:=vP h.tape h.nY h2 h3;rw [←h1] at h4;refine ⟨rs++us,[],_,by rw [hd,List.append_nil],vM,h4,fun q hq=>?_,h.len,by omega,by omega⟩;refine sN ?_;by_cases e:q=p.q
   ·rw [e,upd_same];exact h5
   rw [upd_ne e];exact h.nY q hq
 exact ⟨rs,t,f,h.data,h.anC,h.tape,fun q hq=>(h.nY q hq).1,h.len,h.syn.1,h.syn.2⟩
theorem DK.may (h:DK X):cu X.data X.syn=true:=by
 obtain ⟨rs,t,f,_,_,_,_,h1,h2,h3⟩:=h.tp;simp only [cu,Bool.and_eq_true,decide_eq_true_eq];exact ⟨⟨h1,h2⟩,h3⟩
theorem DK.awW (h:DK X) {rs:List dx} {d:List UInt8} (hw:eD X.data X.syn rs=some d):cu d X.syn=true:=by
 obtain ⟨_,_,_,_,_,_,_,h1,h2,h3⟩:=h.tp;obtain ⟨w1,_,w3⟩:=u7 hw;have:=w3 h1;have hl:=congrArg List.length w1;rw [List.length_append] at hl;simp only [cu,Bool.and_eq_true,decide_eq_true_eq];omega
theorem DK.fit (h:DK X) (hp:X.pend=some p):p.fit∧cu X.data X.syn=true:=by
 refine ⟨?_,h.may⟩
 rcases h with ⟨_,rs,us,h⟩ | ⟨_,rs,t,f,h⟩
 ·obtain ⟨h1,h2,h3⟩:=h.XB p hp;obtain ⟨h4,h5⟩:=vP h.tape h.nY h2 h3
  cases p with
  | serve q evs op num a=>exact ⟨h3,jC h2.2.2.2⟩
  | begun q b=>exact h3
  | got q b last=>exact h3
  | kN q b at_=>exact ⟨h3,h5⟩
  | forget q b=>exact h3
 rw [h.zN] at hp;cases hp
theorem Lb {s:Int} {f:Nat→bO}: ∀ (ql:List Nat) {d d':List UInt8},dV s f ql d=some d'→d.length≤d'.length∧(d.length≤100000→d'.length≤100000)
 | [],d,d',h=>by cases h;exact ⟨Nat.le_refl _,id⟩
 | q::r,d,d',h=>by
  rw [dV] at h
  split at h
  ·exact Lb r h
  split at h
  ·cases h
  split at h
  ·cases h
  rename_i d2 hw
  obtain ⟨w1,_,w3⟩:=u7 hw;obtain ⟨h1,h2⟩:=Lb r h;rw [w1,List.length_append] at h1;exact ⟨by omega,fun h0=>h2 (w3 h0)⟩
theorem U7: ∀ (rs:List dx),6*rs.length≤(bW rs).length
 | []=>by simp [bW]
 | r::rs=>by
  have h1:=(NV r).1;have h2:=U7 rs;have e:bW (r::rs)=l7 r++bW rs:=by simp [bW,List.flatMap_cons]
  rw [e,List.length_append,List.length_cons];omega
theorem DK.MR (h:DK X):Ad X.data X.syn=some (vB (bQ X.data X.syn))∧(∀ q,q<4→au (bQ X.data X.syn q)=0)∧(sK (jf X.data X.syn).1 (jf X.data X.syn).2.1).1.length*80≤reachBytes∧
  (∀ d,dV (jf X.data X.syn).2.1 (bQ X.data X.syn) [0,1,2,3] (jf X.data X.syn).1=some d→cu d (jf X.data X.syn).2.1=true):=by
 obtain ⟨rs,t,f,hd,ht,hT,hb,h1,h2,h3⟩:=h.tp;obtain ⟨r1,r2,r3⟩:=hT.read hd ht h1 h2 h3;have hl:(bW rs).length≤X.data.length:=by rw [hd,List.length_append];omega
 have hg:=U7 rs;refine ⟨by rw [r2,xZ fun q hq=>(r3 q hq).symm],fun q hq=>by rw [r3 q hq];exact hb q hq,?_,fun d hw=>?_⟩
 ·rw [r1];unfold sK;rw [if_pos (by simp [cu];omega)];have:=wF (t:=[]) hT.1 vM;rw [List.append_nil] at this;dsimp only;rw [this];unfold reachBytes;dsimp only;omega
 rw [r1] at hw⊢;obtain ⟨g1,g2⟩:=Lb _ hw;dsimp only at g1 g2 hw⊢;have g3:=g2 (by omega);simp only [cu,Bool.and_eq_true,decide_eq_true_eq];omega
theorem nC.tgt {l:jI} (h:nC l): ∃ j,j<5∧(l.tg= -1∨l.tg= -2∨l.tg=((j:Nat):Int)):=by
 obtain ⟨_,_,h1 | h1 | h1,_⟩:=h
 ·exact ⟨0,by omega,.inl h1⟩
 ·exact ⟨0,by omega,.inr (.inl h1.1)⟩
 exact ⟨l.tg.toNat,by omega,.inr (.inr (by omega))⟩
theorem fJ.fl {T S D K:Nat} (h:fJ m T S D K):m.fly.length≤T:=by
 have:=Kw m (n:=0) (by omega);have:=h.room;omega
theorem fJ.il {T S D K:Nat} (h:fJ m T S D K) (hn:n<5):(m.av n).inbox.length≤T:=by
 have:=Kw m hn;have:=h.room;omega
theorem fJ.fi {T S D K:Nat} (h:fJ m T S D K) (hn:n<5):m.fly.length+(m.av n).inbox.length≤T:=by
 have:=Kw m hn;have:=h.room;omega
end
def ShN (m:Cl):Prop:= ∀ a b,0≤(m.shown a b).2
section
variable {m m':Cl} {n q:Nat} {l:jI}
theorem ShN.of (h:ShN m) (e:m'.shown=m.shown):ShN m':=fun a b=>by rw [e];exact h a b
theorem ShN.tell {e:Ev} {a:iK} {u:Int} (h:ShN m):ShN (m.tell n q e a u):=Fy h
theorem ShN.done {op:Ev} {u:Int} {a:iK} (h:ShN m):ShN (m.done n q op u a):=by
 unfold Cl.done
 split
 ·exact (h.tell (n:=n) (q:=q) (e:=op) (a:=a) (u:=u)).of rfl
 exact h.of rfl
theorem ShN.part {a:Int} (h:ShN m):ShN (m.part n q a):=by
 unfold Cl.part
 split
 ·exact h
 exact h.of rfl
theorem ShN.serve (h:ShN m):ShN (m.serve n l):=by
 unfold Cl.serve
 split
 ·exact h.done
 split
 ·exact h.done
 exact h.of rfl
theorem ShN.handle (h:ShN m):ShN (m.handle n l):=by
 unfold Cl.handle
 split
 ·exact h.serve
 split
 ·unfold Cl.offered
  split
  ·exact h
  split
  ·exact h.of rfl
  split
  ·exact h
  exact h.of rfl
 split
 ·unfold Cl.caught
  split
  ·exact h
  split
  ·exact h
  split
  ·exact ShN.part (h.of rfl)
  split
  ·exact h
  exact h.of rfl
 split
 ·unfold Cl.got
  split
  ·exact h
  split
  ·exact h.of rfl
  split
  ·exact h
  split
  ·exact h
  exact h.of rfl
 unfold Cl.learnt
 split
 ·exact h.of rfl
 split
 ·exact h.of rfl
 exact h.of rfl
theorem ShN.drain: ∀ (ls:List jI) {m:Cl},ShN m→ShN (Cl.drain n ls m)
 | [],m,h=>h
 | l::r,m,h=>by
  rw [Cl.drain];have h1:ShN ((m.put n { m.av n with inbox:=r }).handle n l):=ShN.handle (h.of rfl)
  split
  ·exact ShN.drain r h1
  exact h1
theorem ShN.xH {p:gX} (h:ShN m):ShN (m.xH n p):=by
 cases p with
 | serve q evs op num a=>exact ShN.done (h.of rfl)
 | begun q b=>exact h.of rfl
 | got q b last=>
  unfold Cl.xH;dsimp only
  split
  ·exact ShN.tell (h.of rfl)
  exact h.of rfl
 | kN q b a=>exact ShN.part (h.of rfl)
 | forget q b=>exact h.of rfl
theorem ShN.step (h:ShN m):ShN (m.step n):=by
 unfold Cl.step
 split
 ·exact h
 split
 ·exact ShN.xH (h.of rfl)
 split
 ·exact (h.drain _).of rfl
 exact h.drain _
theorem ShN.come (h:ShN m):ShN (m.come l):=by
 unfold Cl.come
 split
 ·exact h.of rfl
 split
 ·split<;>exact h.of rfl
 split
 ·exact h.of rfl
 exact h
theorem ShN.comes: ∀ (ls:List jI) {m:Cl},ShN m→ShN (ls.foldl Cl.come m)
 | [],_,h=>h
 | _::ls,_,h=>ShN.comes ls h.come
theorem ShN.recover (h:ShN m):ShN (m.recover n q):=(Da m n q h).2.2
theorem ShN.woken {bs:Nat→bO}: ∀ (ql:List Nat) {m:Cl},ShN m→ShN (Cl.woken n bs ql m)
 | [],_,h=>h
 | q::r,m,h=>by
  rw [Cl.woken]
  split
  ·exact ShN.woken r h
  exact ShN.woken r (ShN.tell ((h.recover (n:=n) (q:=q)).of rfl))
theorem ShN.act {a:Ac} (h:ShN m):ShN (m.act a):=by
 unfold Cl.act
 split
 ·unfold Cl.make
  split
  ·exact h
  split
  ·exact h
  split
  ·exact h
  exact Fy (l:=[]) h
 split
 ·exact h.of rfl
 split
 ·exact h.step
 split
 ·unfold Cl.pick
  split
  ·exact h
  dsimp only
  split
  ·refine ShN.come ?_
   split
   ·exact h
   exact h.of rfl
  split
  ·exact h
  exact h.of rfl
 split
 ·exact ShN.comes _ (h.of rfl)
 split
 ·unfold Cl.crash
  split
  ·exact h.of rfl
  exact h
 split
 ·unfold Cl.start
  split
  ·exact h
  split
  ·exact h
  exact ShN.woken _ (h.of rfl)
 unfold Cl.move
 split
 ·exact h
 split
 ·exact h.of rfl
 exact h
end
section
variable {m:Cl} {n:Nat} {X:Nd} {l:jI} {PW:Pl×Int}
theorem abO (h:l.tg= -1):m.come l={ m with aM:=m.aM++[l.aM] }:=if_pos h
theorem p8 (h:l.tg= -2) (hP:bI (fD m.off l) l.q=PW) (h2:PW.2=0):m.come l={ m with off:=fD m.off l,fly:=m.fly++[oq l.fr l.q PW.1] }:=by
 unfold Cl.come;rw [if_neg (by omega),if_pos h,hP,if_pos h2]
theorem p9 (h:l.tg= -2) (hP:bI (fD m.off l) l.q=PW) (h2: ¬ PW.2=0):m.come l={ m with off:=fD m.off l }:=by
 unfold Cl.come;rw [if_neg (by omega),if_pos h,hP,if_neg h2]
theorem Yi (h:l.tg=((n:Nat):Int)) (hX:m.av n=X) (hu:X.up=true):m.come l=m.put n (X.box (X.inbox++[l])):=by
 subst hX;unfold Cl.come;rw [if_neg (by omega),if_neg (by omega),h,Int.toNat_natCast,if_pos hu];rfl
theorem Yj (h:l.tg=((n:Nat):Int)) (hX:m.av n=X) (hu:X.up=false):m.come l=m:=by
 subst hX;unfold Cl.come;rw [if_neg (by omega),if_neg (by omega),h,Int.toNat_natCast,if_neg (by rw [hu];simp)]
theorem dz.aqz {K:CK} {L:List Fact} {c:Nat} {z:NX} {A:Option Addr} {x:LX} (h:dz K L n X z) (hx:MF L x):dz K L n (X.box (X.inbox++[x.l])) { z with iA:=A,ic:=c,ix:=z.ix++[x] }:=
 ⟨h.MG,h.Ox,h.vO,by rw [List.map_append,h.Xm];rfl,fun u hu=>(List.mem_append.1 hu).elim (h.Xn u) fun e=>by rw [List.mem_singleton] at e;subst e;exact hx,h.zN⟩
end
theorem AU {K:CK} {B n kn kw:Nat} {w0 w:World} {fs:List Fact} {m:Cl} {H:List LX} {x:LX} (hn:n<5) (hkn:K.nb n=kn) (bR:K.wb=kw) (hu:Uk B w0) (hB1:m.fly.length≤1000000000) (hB2:m.aM.length≤1000000000000) (hB3:(m.av n).inbox.length≤1000000000) (HW:Wd K B w0 w fs m (x::H)) (vW:x.l.tg= -1∨x.l.tg= -2∨x.l.tg=((n:Nat):Int)):
    Calls Tryz.prog 72 #[.pointer (some ⟨kw,0,none⟩),.agg (LX.row x)] w (fun e w'=>e= .returned (.tuple #[])∧Wd K B w0 w' fs (m.come x.l) H):=by
 obtain ⟨R,G,S0⟩:=HW.open hn;have hfl:R.fx.length=m.fly.length:=by rw [←G.fly,List.length_map]
 have NG:=G.lC n hn;obtain ⟨X,hX⟩: ∃ X,m.av n=X:=⟨_,rfl⟩;obtain ⟨z,hz⟩: ∃ z,R.nx n=z:=⟨_,rfl⟩;rw [hX,hz] at S0 NG;have hL: ∀ f∈R.L,f∈eZ K R m fs n:=fun f h=>List.mem_append_right _ (List.mem_append_right _ h)
 obtain ⟨rr,hrr⟩: ∃ r,eZ K R m fs n=r:=⟨_,rfl⟩;rw [hrr] at S0 hL;have S:St B w0 w ((.blk kn (aU n X.up (.slice z.tA X.data.length z.tc) X.syn (.slice (some ⟨z.bb,0,none⟩) 4 4) X.hints X.sure (.slice z.iA z.ix.length z.ic) (z.pv) X.turn) 129)::(.own 42 6 (.slice (some ⟨z.bb,0,none⟩) 4 4) 4 ((z.bx).flatMap BX.cells))::(.off 169 23 z.iA z.ix.length z.ic ((z.ix).flatMap LX.cells))::(.blk kw (bL (.slice R.nA 5 R.nc) m.off (.slice R.fA R.fx.length R.fc) m.shown (.slice R.sA m.aH.length R.sc) (.slice R.tA m.aM.length R.tc) m.calls) 121)::(.own 169 23 (.slice R.fA R.fx.length R.fc) R.fx.length ((R.fx).flatMap LX.cells))::(.own 85 14 (.slice R.sA m.aH.length R.sc) m.aH.length ((m.aH).flatMap eT.cells))::(.own 81 7 (.slice R.tA m.aM.length R.tc) m.aM.length ((m.aM).flatMap fK.cells))::rr):=by subst hkn;subst bR;exact S0
 clear S0 HW;have hlen:=(S.own 1 rfl).1;rw [gL (sz:=6) (fun _=>rfl)] at hlen;obtain ⟨ab,ao,oO⟩:=zn G.arr S (memT 7 rfl hL);have harr:=G.arr;rw [oO] at S harr;have aDx:z.ix.length≤1000000000:=by have:=congrArg List.length NG.Xm;rw [List.length_map] at this;rw [hX] at hB3;omega
 refine fE 106 Tryz.func72 ?_;refine cw [0,1] ?_;iterate 2 refine zQ ?_
 refine gD S ?_;intro b1 w2 S3;iterate 4 refine zQ ?_
 rcases vW with vW | vW | vW
 ·iterate 8 refine zQ ?_
  have S4:=S3.drew;refine fG 14 10 S4 [7] ?_;iterate 5 refine iP ?_
  refine gk (v:= .slice R.tA m.aM.length R.tc) 5 rfl (St.del 7 S4) (fun _ awX=>(aj rfl rfl (aA Tryz.underlying36 rfl (St.cl 4 awX rfl ap2)))) ?_;refine iP ?_;refine gk (v:= .agg #[iV x.l.aM.num,iV x.l.aM.ans.code,iV x.l.aM.ans.gG,iV x.l.aM.ans.hno,iV x.l.aM.ans.body,iV x.l.aM.pl.node,iV x.l.aM.pl.epoch]) 7 rfl (St.del 7 S4) (fun _ Yk=>(aj rfl rfl (aG (cs:=[iV x.l.aM.num,iV x.l.aM.ans.code,iV x.l.aM.ans.gG,iV x.l.aM.ans.hno,iV x.l.aM.ans.body,iV x.l.aM.pl.node,iV x.l.aM.pl.epoch]) Tryz.underlying81 rfl YA rfl (St.rg 0 Yk rfl (ak0))))) ?_;refine gW (m:=5) (r:=8) (by kernel_rfl) ?_;refine kS (i:=8) rfl rfl (V:=fun b=> .slice (some ⟨b,0,none⟩) 1 1) (row:= #[iV x.l.aM.num,iV x.l.aM.ans.code,iV x.l.aM.ans.gG,iV x.l.aM.ans.hno,iV x.l.aM.ans.body,iV x.l.aM.pl.node,iV x.l.aM.pl.epoch]) (t:=81) S4 (wn rfl) rfl rfl (aK (vs:=[(0,.agg #[iV x.l.aM.num,iV x.l.aM.ans.code,iV x.l.aM.ans.gG,iV x.l.aM.ans.hno,iV x.l.aM.ans.body,iV x.l.aM.pl.node,iV x.l.aM.pl.epoch])]) rfl ⟨rfl,rfl,trivial⟩ (by kernel_rfl)) ?_;intro b13 FT gH;refine iP ?_;refine gW (m:=4) (r:=9) (by kernel_rfl) ?_;refine jW (i:=9) rfl rfl (news:=[iV x.l.aM.num,iV x.l.aM.ans.code,iV x.l.aM.ans.gG,iV x.l.aM.ans.hno,iV x.l.aM.ans.body,iV x.l.aM.pl.node,iV x.l.aM.pl.epoch]) (xs':=(m.aM++[x.l.aM]).flatMap fK.cells) 8 gH (wn rfl) rfl rfl rfl rfl rfl rfl (St.iG (xs:=[iV x.l.aM.num,iV x.l.aM.ans.code,iV x.l.aM.ans.gG,iV x.l.aM.ans.hno,iV x.l.aM.ans.body,iV x.l.aM.pl.node,iV x.l.aM.pl.epoch]) 0 gH rfl rfl rfl) Tryz.underlying36 ajN rfl (by decide) (bZ rfl) (by simp only [maxLen];omega) (by omega) (jZ (enc:=fK.cells) rfl rfl) ?_;intro A16 c17 L8 avd ave lg;refine iP ?_;refine eF (by kernel_rfl) rfl rfl rfl ?_;iterate 3 refine zQ ?_
  refine iU 5 lg af6 ?_ (hs:=by exact ap4);intro Qs mE;refine zQ ?_;refine je ?_;refine bN (l':=[]) trivial (gy (aY (rs:=[]) (vs:=[]) rfl trivial ?_));have jB:=mE.aR [1,0];rw [←oO] at jB;have QI:m.aM.length+1=(m.aM++[x.l.aM]).length:=by simp
  rw [QI] at jB;rw [abO vW];exact ⟨rfl,Wd.dw (X':=X) (z':=z) (Ls:=[]) (fA:=R.fA) (fc:=R.fc) (fx:=R.fx) (sA:=R.sA) (sc:=R.sc) (tA:=A16) (tc:=c17) hkn bR hrr G hn jB NG.more (fun u hu=> .inl hu) (aQ hX).symm G.fly.symm mH⟩
 ·iterate 22 refine zQ ?_
  by_cases qO:0≤x.l.nd
  ·iterate 4 refine zQ ?_
   obtain ⟨FD,FZ⟩: ∃ r,IB m.off x.l.q x.l.ep x.l.nd=r:=⟨_,rfl⟩;have HF:=fun w h=>Sq m.off x.l.q x.l.ep x.l.nd w h
   rw [FZ] at HF;refine zQ ?_;have kD:=S3.drew;refine aN 17 kD [] ?_;iterate 3 refine aF ?_
   refine ak (v:= .agg ((m.off.cells).toArray)) 3 rfl kD (fun _ Xr=>(aj rfl rfl (aG (cs:=(m.off.cells)) Tryz.underlying33 rfl nS rfl (St.rg 4 Xr rfl (vN))))) ?_;iterate 6 refine aF ?_
   refine dR (n:=6) (r:=10) (s:=14) (by kernel_rfl) ?_ ?_
   ·refine iH 10 rfl af8 (HF _ (Uk.nw hu kD)) ?_;rintro _ NQ ⟨rfl,aiC⟩;refine ⟨_,rfl,?_⟩;have oG:=kD.on aiC;iterate 4 refine aF ?_
    refine aS 14 ?_;refine jk 14 rfl oG ab3 ?_;intro b43 L9 mW;refine aF ?_;refine aS 15 ?_;refine Zp 15 rfl 0 mW nS ?_ (h1:=um _);intro UJ uy;iterate 3 refine aF ?_
    iterate 4 refine zQ ?_
    by_cases h49:FD.2=0
    ·iterate 9 refine zQ ?_
     refine iU 5 uy nS ?_ (h1:=um _) (hs:=by exact aia);intro Qw sw;iterate 2 refine zQ ?_
     obtain ⟨PW,uw⟩: ∃ r,bI FD.1 x.l.q=r:=⟨_,rfl⟩;have HQ:=fun w h=>lU FD.1 x.l.q w h
     rw [uw] at HQ;refine zQ ?_;have oF:=sw.drew;refine aN 13 oF [] ?_;iterate 3 refine aF ?_
     refine ak (v:= .agg (((FD.1).cells).toArray)) 3 rfl oF (fun _ Xp=>(aj rfl rfl (aG (cs:=((FD.1).cells)) Tryz.underlying33 rfl nS rfl (St.rg 5 Xp rfl (vN))))) ?_;iterate 2 refine aF ?_
     refine dR (n:=6) (r:=6) (s:=10) (by kernel_rfl) ?_ ?_
     ·refine iH 6 rfl wY (HQ _ (Uk.nw hu oF)) ?_;rintro _ w59 ⟨rfl,awY⟩;refine ⟨_,rfl,?_⟩;have Qt:=oF.on awY;iterate 4 refine aF ?_
      refine aS 10 ?_;refine jk 10 rfl Qt Dl ?_;intro b65 NP oN;refine aF ?_;refine aS 11 ?_;refine sn 11 rfl 0 oN iJ ?_;intro w68 xg;iterate 3 refine aF ?_
      iterate 4 refine zQ ?_
      by_cases h71:PW.2=0
      ·iterate 14 refine zQ ?_
       refine vv (v:= .agg #[iV 6,iV (-2),iV x.l.fr,iV ((x.l.q:Nat):Int),iV PW.1.epoch,iV 0,iV PW.1.node,iV 0,iV 0,iV 0,iV 0,iV 0,iV 0,.slice none 0 0,.bool false,iV 0,iV 0,iV 0,iV 0,iV 0,iV 0,iV 0,iV 0]) gZ ?_;have Cz:=xg.dM [7,7];refine dO wm (fO (x:=⟨oq x.l.fr x.l.q PW.1,none,0⟩) Cz (by omega)) ?_;rintro _ UF ⟨rfl,A73,c74,awZ,aoc,Bg⟩;refine ⟨_,rfl,?_⟩;refine zQ ?_;refine bN (l':=[]) trivial (gy (aY (rs:=[]) (vs:=[]) rfl trivial ?_));have Aq:=Bg.aR [4,3,2];have xG:=Aq.dM [6,6,3,3,6,6,6];rw [←oO] at xG;have jX:fD m.off x.l=FD.1:=by
        unfold fD;rw [FZ,if_pos (by omega)]
       rw [p8 (PW:=PW) vW (by rw [jX];exact uw) (by assumption),jX];exact ⟨rfl,Wd.dw (X':=X) (z':=z) (Ls:=[]) (fA:=A73) (fc:=c74) (fx:=awZ) (sA:=R.sA) (sc:=R.sc) (tA:=R.tA) (tc:=R.tc) hkn bR hrr G hn xG NG.more (by rw [aoc];exact nu (gY rfl)) (aQ hX).symm (by rw [aoc,List.map_append,G.fly];rfl) mH⟩
      iterate 7 refine zQ ?_
      have pF:=xg.aR [2,1,0];rw [←oO] at pF;have jX:fD m.off x.l=FD.1:=by
       unfold fD;rw [FZ,if_pos (by omega)]
      rw [p9 (PW:=PW) vW (by rw [jX];exact uw) (by assumption),jX];exact ⟨rfl,Wd.dw (X':=X) (z':=z) (Ls:=[]) (fA:=R.fA) (fc:=R.fc) (fx:=R.fx) (sA:=R.sA) (sc:=R.sc) (tA:=R.tA) (tc:=R.tc) hkn bR hrr G hn pF NG.more (fun u hu=> .inl hu) (aQ hX).symm G.fly.symm mH⟩
     refine jk 10 rfl oF Dl ?_;intro b82 w83 CJ;refine aF ?_;refine aS 6 ?_;refine iH 6 rfl wY (HQ _ (Uk.nw hu CJ)) ?_;rintro _ Qu ⟨rfl,anj⟩;refine ⟨_,rfl,?_⟩;have uh:=CJ.on anj;iterate 4 refine aF ?_
     refine aS 11 ?_;refine sn 11 rfl 0 uh iJ ?_;intro Zz vI;iterate 3 refine aF ?_
     iterate 4 refine zQ ?_
     by_cases h94:PW.2=0
     ·iterate 14 refine zQ ?_
      refine vv (v:= .agg #[iV 6,iV (-2),iV x.l.fr,iV ((x.l.q:Nat):Int),iV PW.1.epoch,iV 0,iV PW.1.node,iV 0,iV 0,iV 0,iV 0,iV 0,iV 0,.slice none 0 0,.bool false,iV 0,iV 0,iV 0,iV 0,iV 0,iV 0,iV 0,iV 0]) gZ ?_;have Ef:=vI.dM [7,7];refine dO wm (fO (x:=⟨oq x.l.fr x.l.q PW.1,none,0⟩) Ef (by omega)) ?_;rintro _ V5 ⟨rfl,A96,c97,aw0,aod,sG⟩;refine ⟨_,rfl,?_⟩;refine zQ ?_;refine bN (l':=[]) trivial (gy (aY (rs:=[]) (vs:=[]) rfl trivial ?_));have pG:=sG.aR [4,3,2];have l9:=pG.dM [6,6,3,3,6,6,6];rw [←oO] at l9;have jX:fD m.off x.l=FD.1:=by
       unfold fD;rw [FZ,if_pos (by omega)]
      rw [p8 (PW:=PW) vW (by rw [jX];exact uw) (by assumption),jX];exact ⟨rfl,Wd.dw (X':=X) (z':=z) (Ls:=[]) (fA:=A96) (fc:=c97) (fx:=aw0) (sA:=R.sA) (sc:=R.sc) (tA:=R.tA) (tc:=R.tc) hkn bR hrr G hn l9 NG.more (by rw [aod];exact nu (gY rfl)) (aQ hX).symm (by rw [aod,List.map_append,G.fly];rfl) mH⟩
     iterate 7 refine zQ ?_
     have qG:=vI.aR [2,1,0];rw [←oO] at qG;have jX:fD m.off x.l=FD.1:=by
      unfold fD;rw [FZ,if_pos (by omega)]
     rw [p9 (PW:=PW) vW (by rw [jX];exact uw) (by assumption),jX];exact ⟨rfl,Wd.dw (X':=X) (z':=z) (Ls:=[]) (fA:=R.fA) (fc:=R.fc) (fx:=R.fx) (sA:=R.sA) (sc:=R.sc) (tA:=R.tA) (tc:=R.tc) hkn bR hrr G hn qG NG.more (fun u hu=> .inl hu) (aQ hX).symm G.fly.symm mH⟩
    iterate 6 refine zQ ?_
    obtain ⟨PW,uw⟩: ∃ r,bI m.off x.l.q=r:=⟨_,rfl⟩;have HQ:=fun w h=>lU m.off x.l.q w h
    rw [uw] at HQ;refine jU (X:=Nat) (fun xv=>[(0,.pointer (some ⟨kw,0,none⟩)),(3,.pointer (some ⟨b1,0,none⟩)),(6,.pointer (some ⟨xv,0,none⟩)),(7,iV PW.2)]) (fun xv wr=>St B w0 wr ((.blk xv #[iV PW.1.node,iV PW.1.epoch] 30)::(.blk b43 (((FD.1).cells).toArray) 33)::(.blk b1 (LX.row x) 169)::(.blk kn (aU n X.up (.slice z.tA X.data.length z.tc) X.syn (.slice (some ⟨z.bb,0,none⟩) 4 4) X.hints X.sure (.slice z.iA z.ix.length z.ic) (z.pv) X.turn) 129)::(.own 42 6 (.slice (some ⟨z.bb,0,none⟩) 4 4) 4 ((z.bx).flatMap BX.cells))::(.off 169 23 z.iA z.ix.length z.ic ((z.ix).flatMap LX.cells))::(.blk kw (bL (.slice (some ⟨ab,ao,none⟩) 5 R.nc) m.off (.slice R.fA R.fx.length R.fc) m.shown (.slice R.sA m.aH.length R.sc) (.slice R.tA m.aM.length R.tc) m.calls) 121)::(.own 169 23 (.slice R.fA R.fx.length R.fc) R.fx.length ((R.fx).flatMap LX.cells))::(.own 85 14 (.slice R.sA m.aH.length R.sc) m.aH.length ((m.aH).flatMap eT.cells))::(.own 81 7 (.slice R.tA m.aM.length R.tc) m.aM.length ((m.aM).flatMap fK.cells))::rr)) ?_ ?_
    ·have lD:=uy.drew;refine aN 13 lD [] ?_;iterate 3 refine aF ?_
     refine ak (v:= .agg ((m.off.cells).toArray)) 3 rfl lD (fun _ aqA=>(aj rfl rfl (aG (cs:=(m.off.cells)) Tryz.underlying33 rfl nS rfl (St.rg 5 aqA rfl (vN))))) ?_;iterate 2 refine aF ?_
     refine dR (n:=6) (r:=6) (s:=10) (by kernel_rfl) ?_ ?_
     ·refine iH 6 rfl wY (HQ _ (Uk.nw hu lD)) ?_;rintro _ Kg ⟨rfl,aqB⟩;refine ⟨_,rfl,?_⟩;have jg:=lD.on aqB;iterate 4 refine aF ?_
      refine aS 10 ?_;refine jk 10 rfl jg Dl ?_;intro aw1 amD oM;refine aF ?_;refine aS 11 ?_;refine sn 11 rfl 0 oM iJ ?_;intro Xc zZ;iterate 3 refine aF ?_
      refine bJ aw1 ?_ ⟨rfl,rfl,rfl,rfl,trivial⟩;exact zZ
     refine jk 10 rfl lD Dl ?_;intro al4 Q8 kH;refine aF ?_;refine aS 6 ?_;refine iH 6 rfl wY (HQ _ (Uk.nw hu kH)) ?_;rintro _ Ie ⟨rfl,YW⟩;refine ⟨_,rfl,?_⟩;have nM:=kH.on YW;iterate 4 refine aF ?_
     refine aS 11 ?_;refine sn 11 rfl 0 nM iJ ?_;intro Ih pI;iterate 3 refine aF ?_
     refine bJ al4 ?_ ⟨rfl,rfl,rfl,rfl,trivial⟩;exact pI
    rintro aw2 ahm qF
    try dsimp only at qF
    refine bq (l':=[(0,.pointer (some ⟨kw,0,none⟩)),(3,.pointer (some ⟨b1,0,none⟩)),(6,.pointer (some ⟨aw2,0,none⟩)),(7,iV PW.2)]) ⟨rfl,rfl,rfl,rfl,trivial⟩ (aW (aO (vm ?_)));by_cases aDy:PW.2=0
    ·iterate 14 refine zQ ?_
     refine vv (v:= .agg #[iV 6,iV (-2),iV x.l.fr,iV ((x.l.q:Nat):Int),iV PW.1.epoch,iV 0,iV PW.1.node,iV 0,iV 0,iV 0,iV 0,iV 0,iV 0,.slice none 0 0,.bool false,iV 0,iV 0,iV 0,iV 0,iV 0,iV 0,iV 0,iV 0]) gZ ?_;have Dp:=qF.dM [7,7];refine dO wm (fO (x:=⟨oq x.l.fr x.l.q PW.1,none,0⟩) Dp (by omega)) ?_;rintro _ auB ⟨rfl,acB,acC,aqC,ag0,MV⟩;refine ⟨_,rfl,?_⟩;refine zQ ?_;refine bN (l':=[]) trivial (gy (aY (rs:=[]) (vs:=[]) rfl trivial ?_));have MW:=MV.aR [4,3,2];have xK:=MW.dM [6,6,3,3,6,6,6];rw [←oO] at xK;have jX:fD m.off x.l=m.off:=by
      unfold fD
      first | rw [FZ,if_neg (by omega)] | rw [if_neg (by omega)]
     rw [p8 (PW:=PW) vW (by rw [jX];exact uw) (by assumption),jX];exact ⟨rfl,Wd.dw (X':=X) (z':=z) (Ls:=[]) (fA:=acB) (fc:=acC) (fx:=aqC) (sA:=R.sA) (sc:=R.sc) (tA:=R.tA) (tc:=R.tc) hkn bR hrr G hn xK NG.more (by rw [ag0];exact nu (gY rfl)) (aQ hX).symm (by rw [ag0,List.map_append,G.fly];rfl) mH⟩
    iterate 7 refine zQ ?_
    have xM:=qF.aR [2,1,0];rw [←oO] at xM;have jX:fD m.off x.l=m.off:=by
     unfold fD
     first | rw [FZ,if_neg (by omega)] | rw [if_neg (by omega)]
    rw [p9 (PW:=PW) vW (by rw [jX];exact uw) (by assumption),jX];exact ⟨rfl,Wd.dw (X':=X) (z':=z) (Ls:=[]) (fA:=R.fA) (fc:=R.fc) (fx:=R.fx) (sA:=R.sA) (sc:=R.sc) (tA:=R.tA) (tc:=R.tc) hkn bR hrr G hn xM NG.more (fun u hu=> .inl hu) (aQ hX).symm G.fly.symm mH⟩
   refine jk 14 rfl kD ab3 ?_;intro aoe awM Fa;refine aF ?_;refine aS 10 ?_;refine iH 10 rfl af8 (HF _ (Uk.nw hu Fa)) ?_;rintro _ anu ⟨rfl,aqD⟩;refine ⟨_,rfl,?_⟩;have tX:=Fa.on aqD;iterate 4 refine aF ?_
   refine aS 15 ?_;refine Zp 15 rfl 0 tX nS ?_ (h1:=um _);intro amH Ke;iterate 3 refine aF ?_
   iterate 4 refine zQ ?_
   by_cases aDz:FD.2=0
   ·iterate 9 refine zQ ?_
    refine iU 5 Ke nS ?_ (h1:=um _) (hs:=by exact aia);intro atw JW;iterate 2 refine zQ ?_
    obtain ⟨PW,uw⟩: ∃ r,bI FD.1 x.l.q=r:=⟨_,rfl⟩;have HQ:=fun w h=>lU FD.1 x.l.q w h
    rw [uw] at HQ;refine jU (X:=Nat) (fun xv=>[(0,.pointer (some ⟨kw,0,none⟩)),(3,.pointer (some ⟨b1,0,none⟩)),(6,.pointer (some ⟨xv,0,none⟩)),(7,iV PW.2)]) (fun xv wr=>St B w0 wr ((.blk xv #[iV PW.1.node,iV PW.1.epoch] 30)::(.blk aoe (((FD.1).cells).toArray) 33)::(.blk b1 (LX.row x) 169)::(.blk kn (aU n X.up (.slice z.tA X.data.length z.tc) X.syn (.slice (some ⟨z.bb,0,none⟩) 4 4) X.hints X.sure (.slice z.iA z.ix.length z.ic) (z.pv) X.turn) 129)::(.own 42 6 (.slice (some ⟨z.bb,0,none⟩) 4 4) 4 ((z.bx).flatMap BX.cells))::(.off 169 23 z.iA z.ix.length z.ic ((z.ix).flatMap LX.cells))::(.blk kw (bL (.slice (some ⟨ab,ao,none⟩) 5 R.nc) (FD.1) (.slice R.fA R.fx.length R.fc) m.shown (.slice R.sA m.aH.length R.sc) (.slice R.tA m.aM.length R.tc) m.calls) 121)::(.own 169 23 (.slice R.fA R.fx.length R.fc) R.fx.length ((R.fx).flatMap LX.cells))::(.own 85 14 (.slice R.sA m.aH.length R.sc) m.aH.length ((m.aH).flatMap eT.cells))::(.own 81 7 (.slice R.tA m.aM.length R.tc) m.aM.length ((m.aM).flatMap fK.cells))::rr)) ?_ ?_
    ·have wu:=JW.drew;refine aN 13 wu [] ?_;iterate 3 refine aF ?_
     refine ak (v:= .agg (((FD.1).cells).toArray)) 3 rfl wu (fun _ aqE=>(aj rfl rfl (aG (cs:=((FD.1).cells)) Tryz.underlying33 rfl nS rfl (St.rg 5 aqE rfl (vN))))) ?_;iterate 2 refine aF ?_
     refine dR (n:=6) (r:=6) (s:=10) (by kernel_rfl) ?_ ?_
     ·refine iH 6 rfl wY (HQ _ (Uk.nw hu wu)) ?_;rintro _ ace ⟨rfl,aqF⟩;refine ⟨_,rfl,?_⟩;have Ii:=wu.on aqF;iterate 4 refine aF ?_
      refine aS 10 ?_;refine jk 10 rfl Ii Dl ?_;intro XU amb JY;refine aF ?_;refine aS 11 ?_;refine sn 11 rfl 0 JY iJ ?_;intro atz acg;iterate 3 refine aF ?_
      refine bJ XU ?_ ⟨rfl,rfl,rfl,rfl,trivial⟩;exact acg
     refine jk 10 rfl wu Dl ?_;intro aw3 atB ach;refine aF ?_;refine aS 6 ?_;refine iH 6 rfl wY (HQ _ (Uk.nw hu ach)) ?_;rintro _ aDA ⟨rfl,aqG⟩;refine ⟨_,rfl,?_⟩;have ah5:=ach.on aqG;iterate 4 refine aF ?_
     refine aS 11 ?_;refine sn 11 rfl 0 ah5 iJ ?_;intro avY M7;iterate 3 refine aF ?_
     refine bJ aw3 ?_ ⟨rfl,rfl,rfl,rfl,trivial⟩;exact M7
    rintro aw4 atD Wi
    try dsimp only at Wi
    refine bq (l':=[(0,.pointer (some ⟨kw,0,none⟩)),(3,.pointer (some ⟨b1,0,none⟩)),(6,.pointer (some ⟨aw4,0,none⟩)),(7,iV PW.2)]) ⟨rfl,rfl,rfl,rfl,trivial⟩ (aW (aO (vm ?_)));by_cases aDB:PW.2=0
    ·iterate 14 refine zQ ?_
     refine vv (v:= .agg #[iV 6,iV (-2),iV x.l.fr,iV ((x.l.q:Nat):Int),iV PW.1.epoch,iV 0,iV PW.1.node,iV 0,iV 0,iV 0,iV 0,iV 0,iV 0,.slice none 0 0,.bool false,iV 0,iV 0,iV 0,iV 0,iV 0,iV 0,iV 0,iV 0]) gZ ?_;have ahx:=Wi.dM [7,7];refine dO wm (fO (x:=⟨oq x.l.fr x.l.q PW.1,none,0⟩) ahx (by omega)) ?_;rintro _ atF ⟨rfl,aw5,aw6,aqH,ag1,ahy⟩;refine ⟨_,rfl,?_⟩;refine zQ ?_;refine bN (l':=[]) trivial (gy (aY (rs:=[]) (vs:=[]) rfl trivial ?_));have aco:=ahy.aR [4,3,2];have Q9:=aco.dM [6,6,3,3,6,6,6];rw [←oO] at Q9;have jX:fD m.off x.l=FD.1:=by
      unfold fD;rw [FZ,if_pos (by omega)]
     rw [p8 (PW:=PW) vW (by rw [jX];exact uw) (by assumption),jX];exact ⟨rfl,Wd.dw (X':=X) (z':=z) (Ls:=[]) (fA:=aw5) (fc:=aw6) (fx:=aqH) (sA:=R.sA) (sc:=R.sc) (tA:=R.tA) (tc:=R.tc) hkn bR hrr G hn Q9 NG.more (by rw [ag1];exact nu (gY rfl)) (aQ hX).symm (by rw [ag1,List.map_append,G.fly];rfl) mH⟩
    iterate 7 refine zQ ?_
    have aof:=Wi.aR [2,1,0];rw [←oO] at aof;have jX:fD m.off x.l=FD.1:=by
     unfold fD;rw [FZ,if_pos (by omega)]
    rw [p9 (PW:=PW) vW (by rw [jX];exact uw) (by assumption),jX];exact ⟨rfl,Wd.dw (X':=X) (z':=z) (Ls:=[]) (fA:=R.fA) (fc:=R.fc) (fx:=R.fx) (sA:=R.sA) (sc:=R.sc) (tA:=R.tA) (tc:=R.tc) hkn bR hrr G hn aof NG.more (fun u hu=> .inl hu) (aQ hX).symm G.fly.symm mH⟩
   iterate 6 refine zQ ?_
   obtain ⟨PW,uw⟩: ∃ r,bI m.off x.l.q=r:=⟨_,rfl⟩;have HQ:=fun w h=>lU m.off x.l.q w h
   rw [uw] at HQ;refine jU (X:=Nat) (fun xv=>[(0,.pointer (some ⟨kw,0,none⟩)),(3,.pointer (some ⟨b1,0,none⟩)),(6,.pointer (some ⟨xv,0,none⟩)),(7,iV PW.2)]) (fun xv wr=>St B w0 wr ((.blk xv #[iV PW.1.node,iV PW.1.epoch] 30)::(.blk aoe (((FD.1).cells).toArray) 33)::(.blk b1 (LX.row x) 169)::(.blk kn (aU n X.up (.slice z.tA X.data.length z.tc) X.syn (.slice (some ⟨z.bb,0,none⟩) 4 4) X.hints X.sure (.slice z.iA z.ix.length z.ic) (z.pv) X.turn) 129)::(.own 42 6 (.slice (some ⟨z.bb,0,none⟩) 4 4) 4 ((z.bx).flatMap BX.cells))::(.off 169 23 z.iA z.ix.length z.ic ((z.ix).flatMap LX.cells))::(.blk kw (bL (.slice (some ⟨ab,ao,none⟩) 5 R.nc) m.off (.slice R.fA R.fx.length R.fc) m.shown (.slice R.sA m.aH.length R.sc) (.slice R.tA m.aM.length R.tc) m.calls) 121)::(.own 169 23 (.slice R.fA R.fx.length R.fc) R.fx.length ((R.fx).flatMap LX.cells))::(.own 85 14 (.slice R.sA m.aH.length R.sc) m.aH.length ((m.aH).flatMap eT.cells))::(.own 81 7 (.slice R.tA m.aM.length R.tc) m.aM.length ((m.aM).flatMap fK.cells))::rr)) ?_ ?_
   ·have Yl:=Ke.drew;refine aN 13 Yl [] ?_;iterate 3 refine aF ?_
    refine ak (v:= .agg ((m.off.cells).toArray)) 3 rfl Yl (fun _ aqI=>(aj rfl rfl (aG (cs:=(m.off.cells)) Tryz.underlying33 rfl nS rfl (St.rg 5 aqI rfl (vN))))) ?_;iterate 2 refine aF ?_
    refine dR (n:=6) (r:=6) (s:=10) (by kernel_rfl) ?_ ?_
    ·refine iH 6 rfl wY (HQ _ (Uk.nw hu Yl)) ?_;rintro _ aDC ⟨rfl,aqJ⟩;refine ⟨_,rfl,?_⟩;have aw7:=Yl.on aqJ;iterate 4 refine aF ?_
     refine aS 10 ?_;refine jk 10 rfl aw7 Dl ?_;intro aw8 aDD ahC;refine aF ?_;refine aS 11 ?_;refine sn 11 rfl 0 ahC iJ ?_;intro aDE Wp;iterate 3 refine aF ?_
     refine bJ aw8 ?_ ⟨rfl,rfl,rfl,rfl,trivial⟩;exact Wp
    refine jk 10 rfl Yl Dl ?_;intro aw9 atI acj;refine aF ?_;refine aS 6 ?_;refine iH 6 rfl wY (HQ _ (Uk.nw hu acj)) ?_;rintro _ atJ ⟨rfl,aqK⟩;refine ⟨_,rfl,?_⟩;have ahA:=acj.on aqK;iterate 4 refine aF ?_
    refine aS 11 ?_;refine sn 11 rfl 0 ahA iJ ?_;intro aDF ahD;iterate 3 refine aF ?_
    refine bJ aw9 ?_ ⟨rfl,rfl,rfl,rfl,trivial⟩;exact ahD
   rintro axa aDG aiD
   try dsimp only at aiD
   refine bq (l':=[(0,.pointer (some ⟨kw,0,none⟩)),(3,.pointer (some ⟨b1,0,none⟩)),(6,.pointer (some ⟨axa,0,none⟩)),(7,iV PW.2)]) ⟨rfl,rfl,rfl,rfl,trivial⟩ (aW (aO (vm ?_)));by_cases aDH:PW.2=0
   ·iterate 14 refine zQ ?_
    refine vv (v:= .agg #[iV 6,iV (-2),iV x.l.fr,iV ((x.l.q:Nat):Int),iV PW.1.epoch,iV 0,iV PW.1.node,iV 0,iV 0,iV 0,iV 0,iV 0,iV 0,.slice none 0 0,.bool false,iV 0,iV 0,iV 0,iV 0,iV 0,iV 0,iV 0,iV 0]) gZ ?_;have axb:=aiD.dM [7,7];refine dO wm (fO (x:=⟨oq x.l.fr x.l.q PW.1,none,0⟩) axb (by omega)) ?_;rintro _ aDI ⟨rfl,axc,axd,aqL,ag2,acp⟩;refine ⟨_,rfl,?_⟩;refine zQ ?_;refine bN (l':=[]) trivial (gy (aY (rs:=[]) (vs:=[]) rfl trivial ?_));have axe:=acp.aR [4,3,2];have aog:=axe.dM [6,6,3,3,6,6,6];rw [←oO] at aog;have jX:fD m.off x.l=m.off:=by
     unfold fD
     first | rw [FZ,if_neg (by omega)] | rw [if_neg (by omega)]
    rw [p8 (PW:=PW) vW (by rw [jX];exact uw) (by assumption),jX];exact ⟨rfl,Wd.dw (X':=X) (z':=z) (Ls:=[]) (fA:=axc) (fc:=axd) (fx:=aqL) (sA:=R.sA) (sc:=R.sc) (tA:=R.tA) (tc:=R.tc) hkn bR hrr G hn aog NG.more (by rw [ag2];exact nu (gY rfl)) (aQ hX).symm (by rw [ag2,List.map_append,G.fly];rfl) mH⟩
   iterate 7 refine zQ ?_
   have aoh:=aiD.aR [2,1,0];rw [←oO] at aoh;have jX:fD m.off x.l=m.off:=by
    unfold fD
    first | rw [FZ,if_neg (by omega)] | rw [if_neg (by omega)]
   rw [p9 (PW:=PW) vW (by rw [jX];exact uw) (by assumption),jX];exact ⟨rfl,Wd.dw (X':=X) (z':=z) (Ls:=[]) (fA:=R.fA) (fc:=R.fc) (fx:=R.fx) (sA:=R.sA) (sc:=R.sc) (tA:=R.tA) (tc:=R.tc) hkn bR hrr G hn aoh NG.more (fun u hu=> .inl hu) (aQ hX).symm G.fly.symm mH⟩
  iterate 6 refine zQ ?_
  obtain ⟨PW,uw⟩: ∃ r,bI m.off x.l.q=r:=⟨_,rfl⟩;have HQ:=fun w h=>lU m.off x.l.q w h
  rw [uw] at HQ;refine jU (X:=Nat) (fun xv=>[(0,.pointer (some ⟨kw,0,none⟩)),(3,.pointer (some ⟨b1,0,none⟩)),(6,.pointer (some ⟨xv,0,none⟩)),(7,iV PW.2)]) (fun xv wr=>St B w0 wr ((.blk xv #[iV PW.1.node,iV PW.1.epoch] 30)::(.blk b1 (LX.row x) 169)::(.blk kn (aU n X.up (.slice z.tA X.data.length z.tc) X.syn (.slice (some ⟨z.bb,0,none⟩) 4 4) X.hints X.sure (.slice z.iA z.ix.length z.ic) (z.pv) X.turn) 129)::(.own 42 6 (.slice (some ⟨z.bb,0,none⟩) 4 4) 4 ((z.bx).flatMap BX.cells))::(.off 169 23 z.iA z.ix.length z.ic ((z.ix).flatMap LX.cells))::(.blk kw (bL (.slice (some ⟨ab,ao,none⟩) 5 R.nc) m.off (.slice R.fA R.fx.length R.fc) m.shown (.slice R.sA m.aH.length R.sc) (.slice R.tA m.aM.length R.tc) m.calls) 121)::(.own 169 23 (.slice R.fA R.fx.length R.fc) R.fx.length ((R.fx).flatMap LX.cells))::(.own 85 14 (.slice R.sA m.aH.length R.sc) m.aH.length ((m.aH).flatMap eT.cells))::(.own 81 7 (.slice R.tA m.aM.length R.tc) m.aM.length ((m.aM).flatMap fK.cells))::rr)) ?_ ?_
  ·have Ym:=S3.drew;refine aN 13 Ym [] ?_;iterate 3 refine aF ?_
   refine ak (v:= .agg ((m.off.cells).toArray)) 3 rfl Ym (fun _ aqM=>(aj rfl rfl (aG (cs:=(m.off.cells)) Tryz.underlying33 rfl nS rfl (St.rg 4 aqM rfl (vN))))) ?_;iterate 2 refine aF ?_
   refine dR (n:=6) (r:=6) (s:=10) (by kernel_rfl) ?_ ?_
   ·refine iH 6 rfl wY (HQ _ (Uk.nw hu Ym)) ?_;rintro _ aDJ ⟨rfl,aqN⟩;refine ⟨_,rfl,?_⟩;have axf:=Ym.on aqN;iterate 4 refine aF ?_
    refine aS 10 ?_;refine jk 10 rfl axf Dl ?_;intro axg aDK axh;refine aF ?_;refine aS 11 ?_;refine sn 11 rfl 0 axh iJ ?_;intro aDL axi;iterate 3 refine aF ?_
    refine bJ axg ?_ ⟨rfl,rfl,rfl,rfl,trivial⟩;exact axi
   refine jk 10 rfl Ym Dl ?_;intro axj aDM aoi;refine aF ?_;refine aS 6 ?_;refine iH 6 rfl wY (HQ _ (Uk.nw hu aoi)) ?_;rintro _ aDN ⟨rfl,aqO⟩;refine ⟨_,rfl,?_⟩;have axk:=aoi.on aqO;iterate 4 refine aF ?_
   refine aS 11 ?_;refine sn 11 rfl 0 axk iJ ?_;intro aDO axl;iterate 3 refine aF ?_
   refine bJ axj ?_ ⟨rfl,rfl,rfl,rfl,trivial⟩;exact axl
  rintro axn aDP aiE
  try dsimp only at aiE
  refine bq (l':=[(0,.pointer (some ⟨kw,0,none⟩)),(3,.pointer (some ⟨b1,0,none⟩)),(6,.pointer (some ⟨axn,0,none⟩)),(7,iV PW.2)]) ⟨rfl,rfl,rfl,rfl,trivial⟩ (aW (aO (vm ?_)));by_cases aDQ:PW.2=0
  ·iterate 14 refine zQ ?_
   refine vv (v:= .agg #[iV 6,iV (-2),iV x.l.fr,iV ((x.l.q:Nat):Int),iV PW.1.epoch,iV 0,iV PW.1.node,iV 0,iV 0,iV 0,iV 0,iV 0,iV 0,.slice none 0 0,.bool false,iV 0,iV 0,iV 0,iV 0,iV 0,iV 0,iV 0,iV 0]) gZ ?_;have axo:=aiE.dM [6,6];refine dO wm (fO (x:=⟨oq x.l.fr x.l.q PW.1,none,0⟩) axo (by omega)) ?_;rintro _ aDR ⟨rfl,axp,axq,aqP,ag3,axr⟩;refine ⟨_,rfl,?_⟩;refine zQ ?_;refine bN (l':=[]) trivial (gy (aY (rs:=[]) (vs:=[]) rfl trivial ?_));have acr:=axr.aR [3,2];have aoj:=acr.dM [6,6,3,3,6,6,6];rw [←oO] at aoj;have jX:fD m.off x.l=m.off:=by
    unfold fD
    first | rw [FZ,if_neg (by omega)] | rw [if_neg (by omega)]
   rw [p8 (PW:=PW) vW (by rw [jX];exact uw) (by assumption),jX];exact ⟨rfl,Wd.dw (X':=X) (z':=z) (Ls:=[]) (fA:=axp) (fc:=axq) (fx:=aqP) (sA:=R.sA) (sc:=R.sc) (tA:=R.tA) (tc:=R.tc) hkn bR hrr G hn aoj NG.more (by rw [ag3];exact nu (gY rfl)) (aQ hX).symm (by rw [ag3,List.map_append,G.fly];rfl) mH⟩
  iterate 7 refine zQ ?_
  have aok:=aiE.aR [1,0];rw [←oO] at aok;have jX:fD m.off x.l=m.off:=by
   unfold fD
   first | rw [FZ,if_neg (by omega)] | rw [if_neg (by omega)]
  rw [p9 (PW:=PW) vW (by rw [jX];exact uw) (by assumption),jX];exact ⟨rfl,Wd.dw (X':=X) (z':=z) (Ls:=[]) (fA:=R.fA) (fc:=R.fc) (fx:=R.fx) (sA:=R.sA) (sc:=R.sc) (tA:=R.tA) (tc:=R.tc) hkn bR hrr G hn aok NG.more (fun u hu=> .inl hu) (aQ hX).symm G.fly.symm mH⟩
 iterate 18 refine zQ ?_
 refine eH S3 mixed (by kernel_rfl) ?_;iterate 3 refine zQ ?_
 refine uv (v:= .slice (some ⟨ab,ao,none⟩) 5 R.nc) (fun _ aqQ=>(aj rfl rfl (aA Tryz.underlying114 rfl (St.cl 4 aqQ rfl xP)))) ?_;refine zQ ?_;refine uv (v:=iV ((n:Nat):Int)) (fun _ aqR=>(vW▸(aj rfl rfl (aA Tryz.underlying3 rfl (St.cl 0 aqR rfl rfl))))) ?_;refine uv (fun _ _=>gM n) ?_;refine uv (v:= .pointer (some ⟨kn,0,none⟩)) (fun _ aqS=>(aj rfl rfl (aA Tryz.underlying122 rfl (hkn▸uq harr hn aqS (memT 8 rfl hL))))) ?_;iterate 4 refine zQ ?_
 refine fC fun aDS aol=>?_
 refine zQ ?_
 cases azk:(X.up)
 ·refine bq (l':=[(0,.pointer (some ⟨kw,0,none⟩)),(3,.pointer (some ⟨b1,0,none⟩)),(76,.bool false)]) ⟨rfl,rfl,rfl,trivial⟩ (kQ rfl (oU (gy (aY (rs:=[]) (vs:=[]) rfl trivial ?_))));have aom:=aol.aR [0];rw [←oO] at aom;rw [Yj vW hX (by assumption)];exact ⟨rfl,Wd.dw (X':=X) (z':=z) (Ls:=[]) (fA:=R.fA) (fc:=R.fc) (fx:=R.fx) (sA:=R.sA) (sc:=R.sc) (tA:=R.tA) (tc:=R.tc) hkn bR hrr G hn aom NG.more (fun u hu=> .inl hu) (aQ hX).symm G.fly.symm mH⟩
 refine bq (l':=[(0,.pointer (some ⟨kw,0,none⟩)),(3,.pointer (some ⟨b1,0,none⟩)),(76,.bool true)]) ⟨rfl,rfl,rfl,trivial⟩ (kP rfl (aW (eH aol mixed (by kernel_rfl) ?_)));iterate 3 refine zQ ?_
 refine uv (v:= .slice (some ⟨ab,ao,none⟩) 5 R.nc) (fun _ aqT=>(aj rfl rfl (aA Tryz.underlying114 rfl (St.cl 4 aqT rfl xP)))) ?_;refine zQ ?_;refine uv (v:=iV ((n:Nat):Int)) (fun _ aqU=>(vW▸(aj rfl rfl (aA Tryz.underlying3 rfl (St.cl 0 aqU rfl rfl))))) ?_;refine uv (fun _ _=>gM n) ?_;refine uv (v:= .pointer (some ⟨kn,0,none⟩)) (fun _ aqV=>(aj rfl rfl (aA Tryz.underlying122 rfl (hkn▸uq harr hn aqV (memT 8 rfl hL))))) ?_;refine zQ ?_;refine fC fun aDT axt=>?_
 refine zQ ?_;have acv:=axt.drew;refine fG 11 8 acv [3] ?_;iterate 6 refine iP ?_
 refine gW (m:=4) (r:=6) (by kernel_rfl) ?_;refine kS (i:=6) rfl rfl (V:=fun b=> .slice (some ⟨b,0,none⟩) 1 1) (row:=LX.row x) (t:=169) acv (wn rfl) rfl rfl (aK (vs:=[(0,.agg (LX.row x))]) rfl ⟨rfl,rfl,trivial⟩ (by kernel_rfl)) ?_;intro aDU aDV aon;refine iP ?_;refine gW (m:=3) (r:=7) (by kernel_rfl) ?_;refine VI (i:=7) rfl rfl (news:=(LX.cells x)) (xs':=(z.ix++[x]).flatMap LX.cells) 4 aon (wn rfl) rfl rfl rfl rfl rfl rfl (St.iG (xs:=(LX.cells x)) 0 aon rfl rfl rfl) (by decide) Tryz.underlying115 Uj rfl (by decide) (Bp _) (by simp only [maxLen];omega) (by omega) (jZ (enc:=LX.cells) rfl rfl) ?_;intro aoo aop aDW axu;refine iP ?_;refine eF (by kernel_rfl) rfl rfl rfl ?_;iterate 2 refine zQ ?_
 refine iU (row':=aU n X.up (.slice z.tA X.data.length z.tc) X.syn (.slice (some ⟨z.bb,0,none⟩) 4 4) X.hints X.sure (.slice aoo (z.ix.length+1) aop) (z.pv) X.turn) 2 axu zG ?_;intro aDX axv;refine zQ ?_;refine je ?_;refine bN (l':=[]) trivial (gy (aY (rs:=[]) (vs:=[]) rfl trivial ?_));have aiF:=axv.aR [1,0];rw [←oO] at aiF;have QI:z.ix.length+1=(z.ix++[x]).length:=by simp
 rw [QI] at aiF;rw [Yi vW hX (by assumption)];exact ⟨rfl,Wd.dw (X':=X.box (X.inbox++[x.l])) (z':={ z with iA:=aoo,ic:=aop,ix:=z.ix++[x] }) (Ls:=[]) (fA:=R.fA) (fc:=R.fc) (fx:=R.fx) (sA:=R.sA) (sc:=R.sc) (tA:=R.tA) (tc:=R.tc) hkn bR hrr G hn aiF (NG.more.aqz (by rw [List.append_nil];exact G.hld x (List.mem_cons_self ..))) (fun u hu=> .inl hu) rfl G.fly.symm mH⟩
set_option linter.unnecessarySimpa false
theorem QJ {α β:Type} (f:α→β): ∀ (l:List α) (i:Nat),(l.eraseIdx i).map f=(l.map f).eraseIdx i
 | [],_=>rfl
 | _::_,0=>rfl
 | a::l,i+1=>congrArg (f a:: ·) (QJ f l i)
theorem Yn {m:Cl} {at_:Nat} {c s:Bool} (h:m.fly.length=0):m.pick at_ c s=m:=by
 unfold Cl.pick;rw [List.length_eq_zero_iff.1 h];rfl
theorem zu {m:Cl} {at_:Nat} {c s:Bool} {l:jI} (h:m.fly[at_ % m.fly.length]? =some l):m.pick at_ c s=if c=true then (if s=true then m else { m with fly:=m.fly.eraseIdx (at_ % m.fly.length) }).come l else if s=true then m else { m with fly:=m.fly.eraseIdx (at_ % m.fly.length) }:=by
 unfold Cl.pick;rw [h]
theorem Wd.drop1 {K:CK} {B:Nat} {w0 w:World} {fs:List Fact} {m:Cl} {x:LX} {H:List LX} (h:Wd K B w0 w fs m (x::H)):Wd K B w0 w fs m H:=by
 obtain ⟨R,G,S⟩:=h;exact ⟨R,⟨G.fly,G.Z0,G.lC,G.arr,fun u hu=>G.hld u (List.mem_cons_of_mem _ hu)⟩,S⟩
theorem AV {K:CK} {B n kn kw:Nat} {w0 w:World} {fs:List Fact} {m:Cl} {H:List LX} {at_:Nat} {comes stays:Bool} (hn:n<5) (hkn:K.nb n=kn) (bR:K.wb=kw) (hu:Uk B w0) (hB1:m.fly.length≤1000000000) (hB2:m.aM.length≤1000000000000) (hib: ∀ j,j<5→(m.av j).inbox.length≤1000000000) (HW:Wd K B w0 w fs m H) (vW: ∀ l∈m.fly,∃ j,j<5∧(l.tg= -1∨l.tg= -2∨l.tg=((j:Nat):Int))):
    Calls Tryz.prog 71 #[pV kw 0,iV ((at_:Nat):Int),.bool comes,.bool stays] w (fun e w'=>e= .returned (.tuple #[])∧Wd K B w0 w' fs (m.pick at_ comes stays) H):=by
 obtain ⟨R,G,S0⟩:=HW.open hn;have hfl:R.fx.length=m.fly.length:=by rw [←G.fly,List.length_map]
 have NG:=G.lC n hn;obtain ⟨X,hX⟩: ∃ X,m.av n=X:=⟨_,rfl⟩;obtain ⟨z,hz⟩: ∃ z,R.nx n=z:=⟨_,rfl⟩;rw [hX,hz] at S0 NG;have hL: ∀ f∈R.L,f∈eZ K R m fs n:=fun f h=>List.mem_append_right _ (List.mem_append_right _ h)
 obtain ⟨rr,hrr⟩: ∃ r,eZ K R m fs n=r:=⟨_,rfl⟩;rw [hrr] at S0 hL;have S:St B w0 w ((.blk kn (aU n X.up (.slice z.tA X.data.length z.tc) X.syn (.slice (aD z.bb 0) 4 4) X.hints X.sure (.slice z.iA z.ix.length z.ic) (z.pv) X.turn) 129)::(.own 42 6 (.slice (aD z.bb 0) 4 4) 4 ((z.bx).flatMap BX.cells))::(.off 169 23 z.iA z.ix.length z.ic ((z.ix).flatMap LX.cells))::(.blk kw (bL (.slice R.nA 5 R.nc) m.off (.slice R.fA R.fx.length R.fc) m.shown (.slice R.sA m.aH.length R.sc) (.slice R.tA m.aM.length R.tc) m.calls) 121)::(.own 169 23 (.slice R.fA R.fx.length R.fc) R.fx.length ((R.fx).flatMap LX.cells))::(.own 85 14 (.slice R.sA m.aH.length R.sc) m.aH.length ((m.aH).flatMap eT.cells))::(.own 81 7 (.slice R.tA m.aM.length R.tc) m.aM.length ((m.aM).flatMap fK.cells))::rr):=by subst hkn;subst bR;exact S0
 clear S0;have hlen:=(S.own 1 rfl).1;rw [gL (sz:=6) (fun _=>rfl)] at hlen;refine fE 47 Tryz.func71 ?_;refine cw [0,1,2,3] ?_;iterate 6 refine zQ ?_
 refine vv (aj rfl rfl (aA Tryz.underlying115 rfl (St.cl 3 S rfl Ni))) ?_;refine zQ ?_;by_cases h1:((R.fx.length:Nat):Int)=0
 ·iterate 7 refine zQ ?_
  rw [Yn (by rw [←hfl];omega)];exact ⟨rfl,HW⟩
 iterate 7 refine zQ ?_
 obtain ⟨g2,hfA⟩:=BK (S.own 4 rfl) (by omega);have S2:=S;rw [hfA] at S2;obtain ⟨i,hit⟩: ∃ i,i=at_ % R.fx.length:=⟨_,rfl⟩;have hi:i<R.fx.length:=by rw [hit];exact Nat.mod_lt _ (by omega)
 obtain ⟨x,hx⟩: ∃ x,R.fx[i]? =some x:=⟨_,List.getElem?_eq_getElem hi⟩;have hxm:x∈R.fx:=List.mem_of_getElem? hx;have hfi:m.fly[at_ % m.fly.length]? =some x.l:=by rw [←hfl,←hit,←G.fly,List.getElem?_map,hx];rfl
 iterate 5 refine zQ ?_
 refine vv (aj rfl rfl (aA Tryz.underlying115 rfl (St.cl 3 S2 rfl Ni))) ?_;refine zQ ?_;refine vv (v:=iV ((i:Nat):Int)) (ah rfl rfl rfl (aaf hit (by omega))) ?_;iterate 8 refine zQ ?_
 refine vv (aj rfl rfl (aA Tryz.underlying115 rfl (St.cl 3 S2 rfl Ni))) ?_;refine zQ ?_;refine vv (gM i) ?_;refine vv (aj rfl rfl (aG (cs:=LX.cells x) Tryz.underlying169 rfl vD rfl (Rd.uN (St.ord 4 S2 rfl) (fun _ _ h=>bS (enc:=LX.cells) (sz:=23) (fun _=>rfl) hx h)))) ?_;refine eU S2 YG ?_;intro b3 w4 S5;refine sa 0 S5 vD ?_;intro w6 S7;iterate 6 refine zQ ?_
 cases hb8:(stays)
 ·iterate 9 refine zQ ?_
  refine vv (aj rfl rfl (aA Tryz.underlying115 rfl (St.cl 4 S7 rfl Ni))) ?_;iterate 2 refine zQ ?_
  refine vv (v:=iV ((i+1:Nat):Int)) jv ?_;have S9:=S7.dM [7,7,7,7,7,7,7];refine dO aoT (O6 g2 R.fx.length R.fc i _ (R.fx.flatMap LX.cells) _ (S9.own 4 rfl) (afp _) hi) ?_;rintro _ Ma ⟨rfl,axw,aoq⟩;refine ⟨_,rfl,?_⟩;rw [F9 (enc:=LX.cells) (sz:=23) (fun _=>rfl)] at aoq;have jQ:=S9.YE 4 rfl axw aoq;iterate 2 refine zQ ?_
  refine iU 3 jQ zG ?_ (hs:=by exact ah9);intro FT gH;iterate 7 refine zQ ?_
  cases aDY:(comes)
  ·refine bq (l':=[(0,pV kw 0),(9,pV b3 0),(43,.bool false)]) ⟨rfl,rfl,rfl,trivial⟩ (kQ rfl (oU (aY (rs:=[]) (vs:=[]) rfl trivial ?_)));rw [zu hfi];have QI:R.fx.length-1=(R.fx.eraseIdx i).length:=by rw [List.length_eraseIdx,if_pos hi]
   rw [QI] at gH;have aiG:=Wd.dw (X':=X) (z':=z) (m':={ m with fly:=m.fly.eraseIdx (at_ % m.fly.length) }) (H':=x::H) (Ls:=[.blk b3 #[iV x.l.kd,iV x.l.fr,iV x.l.tg,iV ((x.l.q:Nat):Int),iV x.l.ep,iV x.l.at_,iV x.l.nd,iV x.l.op.kind,iV x.l.op.producer,iV x.l.op.id,iV x.l.op.body,iV x.l.op.aL,iV x.l.op.hno,.slice x.A x.l.evs.length x.c,.bool x.l.last,iV x.l.num,iV x.l.aM.num,iV x.l.aM.ans.code,iV x.l.aM.ans.gG,iV x.l.aM.ans.hno,iV x.l.aM.ans.body,iV x.l.aM.pl.node,iV x.l.aM.pl.epoch] 169]) (fA:=(aD g2 0)) (fc:=R.fc) (fx:=R.fx.eraseIdx i) (sA:=R.sA) (sc:=R.sc) (tA:=R.tA) (tc:=R.tc) hkn bR hrr G hn gH NG.more (fun u hu=> .inl (List.mem_of_mem_eraseIdx hu)) (aQ hX).symm (by rw [QJ,G.fly,hit,hfl]) (fun u hu=>(List.mem_cons.1 hu).elim (fun e=> .inr (e▸((G.Z0 x hxm).mono fun f hf=>List.mem_append_left _ hf))) .inl);exact ⟨rfl,by simpa [*] using Wd.drop1 aiG⟩
  refine bq (l':=[(0,pV kw 0),(9,pV b3 0),(43,.bool true)]) ⟨rfl,rfl,rfl,trivial⟩ (kP rfl (aO (vm ?_)));refine zQ ?_;have QI:R.fx.length-1=(R.fx.eraseIdx i).length:=by rw [List.length_eraseIdx,if_pos hi]
  rw [QI] at gH;have axx:=Wd.dw (X':=X) (z':=z) (m':={ m with fly:=m.fly.eraseIdx (at_ % m.fly.length) }) (H':=x::H) (Ls:=[.blk b3 #[iV x.l.kd,iV x.l.fr,iV x.l.tg,iV ((x.l.q:Nat):Int),iV x.l.ep,iV x.l.at_,iV x.l.nd,iV x.l.op.kind,iV x.l.op.producer,iV x.l.op.id,iV x.l.op.body,iV x.l.op.aL,iV x.l.op.hno,.slice x.A x.l.evs.length x.c,.bool x.l.last,iV x.l.num,iV x.l.aM.num,iV x.l.aM.ans.code,iV x.l.aM.ans.gG,iV x.l.aM.ans.hno,iV x.l.aM.ans.body,iV x.l.aM.pl.node,iV x.l.aM.pl.epoch] 169]) (fA:=(aD g2 0)) (fc:=R.fc) (fx:=R.fx.eraseIdx i) (sA:=R.sA) (sc:=R.sc) (tA:=R.tA) (tc:=R.tc) hkn bR hrr G hn gH NG.more (fun u hu=> .inl (List.mem_of_mem_eraseIdx hu)) (aQ hX).symm (by rw [QJ,G.fly,hit,hfl]) (fun u hu=>(List.mem_cons.1 hu).elim (fun e=> .inr (e▸((G.Z0 x hxm).mono fun f hf=>List.mem_append_left _ hf))) .inl);obtain ⟨nn,hnn,htt⟩: ∃ nn,nn<5∧(x.l.tg= -1∨x.l.tg= -2∨x.l.tg=((nn:Nat):Int)):=vW x.l (by rw [←G.fly];exact List.mem_map_of_mem hxm);refine dO ahg (AU (m:={ m with fly:=m.fly.eraseIdx (at_ % m.fly.length) }) (x:=x) hnn rfl bR hu (by first | omega | (show (m.fly.eraseIdx _).length≤_;have:=List.length_eraseIdx_le m.fly (at_ % m.fly.length);omega)) hB2 (hib nn hnn) axx htt) ?_;rintro _ zJ ⟨rfl,axy⟩;refine ⟨_,rfl,?_⟩;refine zQ ?_;refine bN (l':=[]) trivial (aY (rs:=[]) (vs:=[]) rfl trivial ?_);rw [zu hfi];exact ⟨rfl,by simpa [*] using axy⟩
 iterate 11 refine zQ ?_
 cases aDZ:(comes)
 ·refine bq (l':=[(0,pV kw 0),(9,pV b3 0),(43,.bool false)]) ⟨rfl,rfl,rfl,trivial⟩ (kQ rfl (oU (aY (rs:=[]) (vs:=[]) rfl trivial ?_)));rw [zu hfi];have ig:=S7.dM [7,7,7,7,7,7,7];rw [←hfA] at ig;have axz:=Wd.dw (X':=X) (z':=z) (m':=m) (H':=x::H) (Ls:=[.blk b3 #[iV x.l.kd,iV x.l.fr,iV x.l.tg,iV ((x.l.q:Nat):Int),iV x.l.ep,iV x.l.at_,iV x.l.nd,iV x.l.op.kind,iV x.l.op.producer,iV x.l.op.id,iV x.l.op.body,iV x.l.op.aL,iV x.l.op.hno,.slice x.A x.l.evs.length x.c,.bool x.l.last,iV x.l.num,iV x.l.aM.num,iV x.l.aM.ans.code,iV x.l.aM.ans.gG,iV x.l.aM.ans.hno,iV x.l.aM.ans.body,iV x.l.aM.pl.node,iV x.l.aM.pl.epoch] 169]) (fA:=R.fA) (fc:=R.fc) (fx:=R.fx) (sA:=R.sA) (sc:=R.sc) (tA:=R.tA) (tc:=R.tc) hkn bR hrr G hn ig NG.more (fun u hu=> .inl hu) (aQ hX).symm G.fly.symm (fun u hu=>(List.mem_cons.1 hu).elim (fun e=> .inr (e▸((G.Z0 x hxm).mono fun f hf=>List.mem_append_left _ hf))) .inl);exact ⟨rfl,by simpa [*] using Wd.drop1 axz⟩
 refine bq (l':=[(0,pV kw 0),(9,pV b3 0),(43,.bool true)]) ⟨rfl,rfl,rfl,trivial⟩ (kP rfl (aO (vm ?_)));refine zQ ?_;have jB:=S7.dM [7,7,7,7,7,7,7];rw [←hfA] at jB;have axA:=Wd.dw (X':=X) (z':=z) (m':=m) (H':=x::H) (Ls:=[.blk b3 #[iV x.l.kd,iV x.l.fr,iV x.l.tg,iV ((x.l.q:Nat):Int),iV x.l.ep,iV x.l.at_,iV x.l.nd,iV x.l.op.kind,iV x.l.op.producer,iV x.l.op.id,iV x.l.op.body,iV x.l.op.aL,iV x.l.op.hno,.slice x.A x.l.evs.length x.c,.bool x.l.last,iV x.l.num,iV x.l.aM.num,iV x.l.aM.ans.code,iV x.l.aM.ans.gG,iV x.l.aM.ans.hno,iV x.l.aM.ans.body,iV x.l.aM.pl.node,iV x.l.aM.pl.epoch] 169]) (fA:=R.fA) (fc:=R.fc) (fx:=R.fx) (sA:=R.sA) (sc:=R.sc) (tA:=R.tA) (tc:=R.tc) hkn bR hrr G hn jB NG.more (fun u hu=> .inl hu) (aQ hX).symm G.fly.symm (fun u hu=>(List.mem_cons.1 hu).elim (fun e=> .inr (e▸((G.Z0 x hxm).mono fun f hf=>List.mem_append_left _ hf))) .inl);obtain ⟨nn,hnn,htt⟩: ∃ nn,nn<5∧(x.l.tg= -1∨x.l.tg= -2∨x.l.tg=((nn:Nat):Int)):=vW x.l (by rw [←G.fly];exact List.mem_map_of_mem hxm);refine dO ahg (AU (m:=m) (x:=x) hnn rfl bR hu (by first | omega | (show (m.fly.eraseIdx _).length≤_;have:=List.length_eraseIdx_le m.fly (at_ % m.fly.length);omega)) hB2 (hib nn hnn) axA htt) ?_;rintro _ IQ ⟨rfl,axB⟩;refine ⟨_,rfl,?_⟩;refine zQ ?_;refine bN (l':=[]) trivial (aY (rs:=[]) (vs:=[]) rfl trivial ?_);rw [zu hfi];exact ⟨rfl,by simpa [*] using axB⟩
end Go.Proofs.YtbffmhpkenoogaaGreatDoor
