import Derived.Stop.LaidErr
import Derived.Test.YtbffmhpkenoogaaGreatDoorG77f73
import Derived.Test.YtbffmhpkenoogaaGreatDoorG98a76
set_option maxRecDepth 100000
set_option maxHeartbeats 8000000
set_option linter.unusedSimpArgs false
namespace Go.Proofs.YtbffmhpkenoogaaGreatDoor
section
open ChangeShapes WideShapes RowKit
theorem Cc {K:CK} {B n kn kw:Nat} {w0 w:World} {fs:List Fact} {m:Cl} {H:List LX} {x:LX} (hn:n<5) (hkn:K.nb n=kn) (bU:K.wb=kw) (hu:Uk B w0) (hB1:m.fly.length<=1000000000) (hB2:m.bE.length<=1000000000000) (hB3:(m.ah n).inbox.length<=1000000000) (HW:Wd K B w0 w fs m (x::H)) (pK:x.l.tg= -1\/x.l.tg= -2\/x.l.tg=((n:Nat):Int)):
    Calls Tryz.prog 72 #[.pointer (some ⟨kw,0,none⟩),.agg (LX.row x)] w (λe w'=>e= .returned (.tuple #[])/\Wd K B w0 w' fs (m.come x.l) H):=by
 obtain ⟨R,G,S0⟩:=HW.open hn;have hfl:R.fx.length=m.fly.length:=by rw [<-G.fly,List.length_map]
 have NG:=G.kV n hn;obtain ⟨X,hX⟩: ∃ X,m.ah n=X:=⟨_,rfl⟩;obtain ⟨z,hz⟩: ∃ z,R.nx n=z:=⟨_,rfl⟩;rw [hX,hz] at S0 NG;have hL: ∀ f∈R.L,f∈fK K R m fs n:=λf h=>List.mem_append_right _ (List.mem_append_right _ h);obtain ⟨rr,hrr⟩: ∃ r,fK K R m fs n=r:=⟨_,rfl⟩;rw [hrr] at S0 hL;have S:St B w0 w ((.blk kn (dx n X.up (.slice z.tA X.data.length z.tc) X.syn (.slice (some ⟨z.bb,0,none⟩) 4 4) X.hints X.sure (.slice z.iA z.ix.length z.ic) (z.pv) X.turn) 129)::(.own 42 6 (.slice (some ⟨z.bb,0,none⟩) 4 4) 4 ((z.bx).flatMap BX.cells))::(fL z.iA z.ix z.ic)::(bW kw (.slice R.nA 5 R.nc) m.off R.fA R.fx R.fc m.shown R.sA m.aQ R.sc R.tA m.bE R.tc m.calls)::(oL R.fA R.fx R.fc)::(oS R.sA m.aQ R.sc)::(oT R.tA m.bE R.tc)::rr):=by subst hkn;subst bU;exact S0
 clear S0 HW;have hlen:=(S.own 1 rfl).1;rw [gX (sz:=6) (λ_=>rfl)] at hlen;obtain ⟨ab,ao,pQ⟩:=Aj G.arr S (memT 7 rfl hL);have harr:=G.arr;rw [pQ] at S harr;have ayL:z.ix.length<=1000000000:=by have:=congrArg List.length NG.Y8;rw [List.length_map] at this;rw [hX] at hB3;omega
 refine fZ 106 Tryz.func72 ?_;refine cw [0,1] ?_;refine zN 2 ?_;refine iC S ?_;intro b1 w2 S3;refine zN 4 ?_
 rcases pK with pK | pK | pK
 ·refine zN 8 ?_;have S4:=S3.drew;refine eO 14 10 S4 [7] ?_;iterate 5 refine gy ?_
  refine gk (v:= .slice R.tA m.bE.length R.tc) 5 rfl (St.del 7 S4) (λ_ avs=>(au rfl rfl (ay Tryz.underlying36 rfl (St.cl 4 avs rfl apO)))) ?_;refine gy ?_;refine gk (v:= .agg #[iV x.l.bE.num,iV x.l.bE.ans.code,iV x.l.bE.ans.eP,iV x.l.bE.ans.hno,iV x.l.bE.ans.body,iV x.l.bE.pl.node,iV x.l.bE.pl.epoch]) 7 rfl (St.del 7 S4) (λ_ ajv=>(au rfl rfl (aA (cs:=[iV x.l.bE.num,iV x.l.bE.ans.code,iV x.l.bE.ans.eP,iV x.l.bE.ans.hno,iV x.l.bE.ans.body,iV x.l.bE.pl.node,iV x.l.bE.pl.epoch]) Tryz.underlying81 rfl aaE rfl (St.rg 0 ajv rfl (alA))))) ?_;refine eB (m:=5) (r:=8) (by kernel_rfl) ?_;refine lF (i:=8) rfl rfl (V:=λb=> .slice (some ⟨b,0,none⟩) 1 1) (row:= #[iV x.l.bE.num,iV x.l.bE.ans.code,iV x.l.bE.ans.eP,iV x.l.bE.ans.hno,iV x.l.bE.ans.body,iV x.l.bE.pl.node,iV x.l.bE.pl.epoch]) (t:=81) S4 (wn rfl) rfl rfl (aP (vs:=[(0,.agg #[iV x.l.bE.num,iV x.l.bE.ans.code,iV x.l.bE.ans.eP,iV x.l.bE.ans.hno,iV x.l.bE.ans.body,iV x.l.bE.pl.node,iV x.l.bE.pl.epoch])]) rfl ⟨rfl,rfl,trivial⟩ (by kernel_rfl)) ?_;intro b13 KE iw;refine gy ?_;refine eB (m:=4) (r:=9) (by kernel_rfl) ?_;refine kE (i:=9) rfl rfl (news:=[iV x.l.bE.num,iV x.l.bE.ans.code,iV x.l.bE.ans.eP,iV x.l.bE.ans.hno,iV x.l.bE.ans.body,iV x.l.bE.pl.node,iV x.l.bE.pl.epoch]) (xs':=(m.bE++[x.l.bE]).flatMap vo.cells) 8 iw (wn rfl) rfl rfl rfl rfl rfl rfl (St.lJ (xs:=[iV x.l.bE.num,iV x.l.bE.ans.code,iV x.l.bE.ans.eP,iV x.l.bE.ans.hno,iV x.l.bE.ans.body,iV x.l.bE.pl.node,iV x.l.bE.pl.epoch]) 0 iw rfl rfl rfl) Tryz.underlying36 akK rfl (by decide) (bT rfl) (by simp only [maxLen];omega) (by omega) (jE (enc:=vo.cells) rfl rfl) ?_;intro A16 c17 Kv att atu kT;refine gy ?_;refine dX (by kernel_rfl) rfl rfl rfl ?_;refine zN 3 ?_;refine je 5 kT aho ?_ (hs:=by exact apQ);intro w22 lu;refine zQ ?_;refine iJ ?_;refine bO (l':=[]) trivial (gQ (aV (rs:=[]) (vs:=[]) rfl trivial ?_));have jG:=lu.aR [1,0];rw [<-pQ] at jG;have SV:m.bE.length+1=(m.bE++[x.l.bE]).length:=by simp
  rw [SV] at jG;rw [adG pK];exact ⟨rfl,Wd.dF (X':=X) (z':=z) (Ls:=[]) (fA:=R.fA) (fc:=R.fc) (fx:=R.fx) (sA:=R.sA) (sc:=R.sc) (tA:=A16) (tc:=c17) hkn bU hrr G hn jG NG.more (λu hu=> .inl hu) (aG hX).symm G.fly.symm mH⟩
 ·refine zN 22 ?_;by_cases tq:0<=x.l.nd
  ·refine zN 4 ?_;obtain ⟨FD,Ii⟩: ∃ r,zo m.off x.l.q x.l.ep x.l.nd=r:=⟨_,rfl⟩;have HF:=λw h=>UK m.off x.l.q x.l.ep x.l.nd w h;rw [Ii] at HF;refine zQ ?_;have oP:=S3.drew;refine aI 17 oP [] ?_;refine aK 3 ?_;refine ak (v:= .agg ((m.off.cells).toArray)) 3 rfl oP (λ_ Zf=>(au rfl rfl (aA (cs:=(m.off.cells)) Tryz.underlying33 rfl om rfl (St.rg 4 Zf rfl (wz))))) ?_;refine aK 6 ?_;refine gN (n:=6) (r:=10) (s:=14) (by kernel_rfl) ?_ ?_
   ·refine jw 10 rfl ahq (HF _ (Uk.nw hu oP)) ?_;rintro _ Ym ⟨rfl,avt⟩;refine ⟨_,rfl,?_⟩;have sI:=oP.on avt;refine aK 4 ?_;refine aU 14 ?_;refine kL 14 rfl sI ad8 ?_;intro b43 PV nV;refine dh ?_;refine aU 15 ?_;refine X4 15 rfl 0 nV om ?_ (h1:=uI _);intro WS yg;refine aK 3 ?_;refine zN 4 ?_;by_cases h49:FD.2=0
    ·refine zN 9 ?_;refine je 5 yg om ?_ (h1:=uI _) (hs:=by exact aiU);intro Sw uE;refine zN 2 ?_;obtain ⟨PW,uK⟩: ∃ r,aX FD.1 x.l.q=r:=⟨_,rfl⟩;have HQ:=λw h=>mo FD.1 x.l.q w h;rw [uK] at HQ;refine zQ ?_;have oG:=uE.drew;refine aI 13 oG [] ?_;refine aK 3 ?_;refine ak (v:= .agg (((FD.1).cells).toArray)) 3 rfl oG (λ_ Zb=>(au rfl rfl (aA (cs:=((FD.1).cells)) Tryz.underlying33 rfl om rfl (St.rg 5 Zb rfl (wz))))) ?_;refine aK 2 ?_;refine gN (n:=6) (r:=6) (s:=10) (by kernel_rfl) ?_ ?_
     ·refine jw 6 rfl xW (HQ _ (Uk.nw hu oG)) ?_;rintro _ w59 ⟨rfl,avu⟩;refine ⟨_,rfl,?_⟩;have Sy:=oG.on avu;refine aK 4 ?_;refine aU 10 ?_;refine kL 10 rfl Sy EH ?_;intro b65 Sv sU;refine dh ?_;refine aU 11 ?_;refine sn 11 rfl 0 sU iW ?_;intro w68 uF;refine aK 3 ?_;refine zN 4 ?_;by_cases h71:PW.2=0
      ·refine zN 14 ?_;refine vv (v:= .agg #[iV 6,iV (-2),iV x.l.fr,iV ((x.l.q:Nat):Int),iV PW.1.epoch,iV 0,iV PW.1.node,iV 0,iV 0,iV 0,iV 0,iV 0,iV 0,.slice none 0 0,.bool false,iV 0,iV 0,iV 0,iV 0,iV 0,iV 0,iV 0,iV 0]) fQ ?_;have D7:=uF.dO [7,7];refine dG wX (gD (x:=⟨nH x.l.fr x.l.q PW.1,none,0⟩) D7 (by omega)) ?_;rintro _ w77 ⟨rfl,A73,c74,avv,anW,Ib⟩;refine ⟨_,rfl,?_⟩;refine zQ ?_;refine bO (l':=[]) trivial (gQ (aV (rs:=[]) (vs:=[]) rfl trivial ?_));have BI:=Ib.aR [4,3,2];have zX:=BI.dO [6,6,3,3,6,6,6];rw [<-pQ] at zX;have kH:eD m.off x.l=FD.1:=by
        unfold eD;rw [Ii,if_pos (by omega)]
       rw [qH (PW:=PW) pK (by rw [kH];exact uK) (by assumption),kH];exact ⟨rfl,Wd.dF (X':=X) (z':=z) (Ls:=[]) (fA:=A73) (fc:=c74) (fx:=avv) (sA:=R.sA) (sc:=R.sc) (tA:=R.tA) (tc:=R.tc) hkn bU hrr G hn zX NG.more (by rw [anW];exact nN (iH rfl)) (aG hX).symm (by rw [anW,List.map_append,G.fly];rfl) mH⟩
      refine zN 7 ?_;have tV:=uF.aR [2,1,0];rw [<-pQ] at tV;have kH:eD m.off x.l=FD.1:=by
       unfold eD;rw [Ii,if_pos (by omega)]
      rw [qI (PW:=PW) pK (by rw [kH];exact uK) (by assumption),kH];exact ⟨rfl,Wd.dF (X':=X) (z':=z) (Ls:=[]) (fA:=R.fA) (fc:=R.fc) (fx:=R.fx) (sA:=R.sA) (sc:=R.sc) (tA:=R.tA) (tc:=R.tc) hkn bU hrr G hn tV NG.more (λu hu=> .inl hu) (aG hX).symm G.fly.symm mH⟩
     refine kL 10 rfl oG EH ?_;intro b82 w83 Eb;refine dh ?_;refine aU 6 ?_;refine jw 6 rfl xW (HQ _ (Uk.nw hu Eb)) ?_;rintro _ w85 ⟨rfl,am5⟩;refine ⟨_,rfl,?_⟩;have zY:=Eb.on am5;refine aK 4 ?_;refine aU 11 ?_;refine sn 11 rfl 0 zY iW ?_;intro w91 x9;refine aK 3 ?_;refine zN 4 ?_;by_cases h94:PW.2=0
     ·refine zN 14 ?_;refine vv (v:= .agg #[iV 6,iV (-2),iV x.l.fr,iV ((x.l.q:Nat):Int),iV PW.1.epoch,iV 0,iV PW.1.node,iV 0,iV 0,iV 0,iV 0,iV 0,iV 0,.slice none 0 0,.bool false,iV 0,iV 0,iV 0,iV 0,iV 0,iV 0,iV 0,iV 0]) fQ ?_;have Jw:=x9.dO [7,7];refine dG wX (gD (x:=⟨nH x.l.fr x.l.q PW.1,none,0⟩) Jw (by omega)) ?_;rintro _ aej ⟨rfl,A96,c97,avw,anX,uT⟩;refine ⟨_,rfl,?_⟩;refine zQ ?_;refine bO (l':=[]) trivial (gQ (aV (rs:=[]) (vs:=[]) rfl trivial ?_));have rV:=uT.aR [4,3,2];have qh:=rV.dO [6,6,3,3,6,6,6];rw [<-pQ] at qh;have kH:eD m.off x.l=FD.1:=by
       unfold eD;rw [Ii,if_pos (by omega)]
      rw [qH (PW:=PW) pK (by rw [kH];exact uK) (by assumption),kH];exact ⟨rfl,Wd.dF (X':=X) (z':=z) (Ls:=[]) (fA:=A96) (fc:=c97) (fx:=avw) (sA:=R.sA) (sc:=R.sc) (tA:=R.tA) (tc:=R.tc) hkn bU hrr G hn qh NG.more (by rw [anX];exact nN (iH rfl)) (aG hX).symm (by rw [anX,List.map_append,G.fly];rfl) mH⟩
     refine zN 7 ?_;have xC:=x9.aR [2,1,0];rw [<-pQ] at xC;have kH:eD m.off x.l=FD.1:=by
      unfold eD;rw [Ii,if_pos (by omega)]
     rw [qI (PW:=PW) pK (by rw [kH];exact uK) (by assumption),kH];exact ⟨rfl,Wd.dF (X':=X) (z':=z) (Ls:=[]) (fA:=R.fA) (fc:=R.fc) (fx:=R.fx) (sA:=R.sA) (sc:=R.sc) (tA:=R.tA) (tc:=R.tc) hkn bU hrr G hn xC NG.more (λu hu=> .inl hu) (aG hX).symm G.fly.symm mH⟩
    refine zN 6 ?_;obtain ⟨PW,uK⟩: ∃ r,aX m.off x.l.q=r:=⟨_,rfl⟩;have HQ:=λw h=>mo m.off x.l.q w h;rw [uK] at HQ;refine lY (X:=Nat) (λxv=>[(0,.pointer (some ⟨kw,0,none⟩)),(3,.pointer (some ⟨b1,0,none⟩)),(6,.pointer (some ⟨xv,0,none⟩)),(7,iV PW.2)]) (λxv wr=>St B w0 wr ((.blk xv #[iV PW.1.node,iV PW.1.epoch] 30)::(.blk b43 (((FD.1).cells).toArray) 33)::(.blk b1 (LX.row x) 169)::(.blk kn (dx n X.up (.slice z.tA X.data.length z.tc) X.syn (.slice (some ⟨z.bb,0,none⟩) 4 4) X.hints X.sure (.slice z.iA z.ix.length z.ic) (z.pv) X.turn) 129)::(.own 42 6 (.slice (some ⟨z.bb,0,none⟩) 4 4) 4 ((z.bx).flatMap BX.cells))::(fL z.iA z.ix z.ic)::(bW kw (.slice (some ⟨ab,ao,none⟩) 5 R.nc) m.off R.fA R.fx R.fc m.shown R.sA m.aQ R.sc R.tA m.bE R.tc m.calls)::(oL R.fA R.fx R.fc)::(oS R.sA m.aQ R.sc)::(oT R.tA m.bE R.tc)::rr)) ?_ ?_
    ·have rA:=yg.drew;refine aI 13 rA [] ?_;refine aK 3 ?_;refine ak (v:= .agg ((m.off.cells).toArray)) 3 rfl rA (λ_ aqo=>(au rfl rfl (aA (cs:=(m.off.cells)) Tryz.underlying33 rfl om rfl (St.rg 5 aqo rfl (wz))))) ?_;refine aK 2 ?_;refine gN (n:=6) (r:=6) (s:=10) (by kernel_rfl) ?_ ?_
     ·refine jw 6 rfl xW (HQ _ (Uk.nw hu rA)) ?_;rintro _ YH ⟨rfl,aqp⟩;refine ⟨_,rfl,?_⟩;have mO:=rA.on aqp;refine aK 4 ?_;refine aU 10 ?_;refine kL 10 rfl mO EH ?_;intro avx amu pG;refine dh ?_;refine aU 11 ?_;refine sn 11 rfl 0 pG iW ?_;intro Y1 Bj;refine aK 3 ?_;refine dw avx ?_ ⟨rfl,rfl,rfl,rfl,trivial⟩;exact Bj
     refine kL 10 rfl rA EH ?_;intro avy aiN wo;refine dh ?_;refine aU 6 ?_;refine jw 6 rfl xW (HQ _ (Uk.nw hu wo)) ?_;rintro _ Yd ⟨rfl,aaU⟩;refine ⟨_,rfl,?_⟩;have wZ:=wo.on aaU;refine aK 4 ?_;refine aU 11 ?_;refine sn 11 rfl 0 wZ iW ?_;intro Yy yO;refine aK 3 ?_;refine dw avy ?_ ⟨rfl,rfl,rfl,rfl,trivial⟩;exact yO
    rintro avz amh Dc
    try dsimp only at Dc
    refine bH (l':=[(0,.pointer (some ⟨kw,0,none⟩)),(3,.pointer (some ⟨b1,0,none⟩)),(6,.pointer (some ⟨avz,0,none⟩)),(7,iV PW.2)]) ⟨rfl,rfl,rfl,rfl,trivial⟩ (aT (aH (vm ?_)));by_cases ayM:PW.2=0
    ·refine zN 14 ?_;refine vv (v:= .agg #[iV 6,iV (-2),iV x.l.fr,iV ((x.l.q:Nat):Int),iV PW.1.epoch,iV 0,iV PW.1.node,iV 0,iV 0,iV 0,iV 0,iV 0,iV 0,.slice none 0 0,.bool false,iV 0,iV 0,iV 0,iV 0,iV 0,iV 0,iV 0,iV 0]) fQ ?_;have EM:=Dc.dO [7,7];refine dG wX (gD (x:=⟨nH x.l.fr x.l.q PW.1,none,0⟩) EM (by omega)) ?_;rintro _ asM ⟨rfl,aef,aeg,aqr,ahX,O5⟩;refine ⟨_,rfl,?_⟩;refine zQ ?_;refine bO (l':=[]) trivial (gQ (aV (rs:=[]) (vs:=[]) rfl trivial ?_));have O6:=O5.aR [4,3,2];have Bf:=O6.dO [6,6,3,3,6,6,6];rw [<-pQ] at Bf;have kH:eD m.off x.l=m.off:=by
      unfold eD
      first | rw [Ii,if_neg (by omega)] | rw [if_neg (by omega)]
     rw [qH (PW:=PW) pK (by rw [kH];exact uK) (by assumption),kH];exact ⟨rfl,Wd.dF (X':=X) (z':=z) (Ls:=[]) (fA:=aef) (fc:=aeg) (fx:=aqr) (sA:=R.sA) (sc:=R.sc) (tA:=R.tA) (tc:=R.tc) hkn bU hrr G hn Bf NG.more (by rw [ahX];exact nN (iH rfl)) (aG hX).symm (by rw [ahX,List.map_append,G.fly];rfl) mH⟩
    refine zN 7 ?_;have yP:=Dc.aR [2,1,0];rw [<-pQ] at yP;have kH:eD m.off x.l=m.off:=by
     unfold eD
     first | rw [Ii,if_neg (by omega)] | rw [if_neg (by omega)]
    rw [qI (PW:=PW) pK (by rw [kH];exact uK) (by assumption),kH];exact ⟨rfl,Wd.dF (X':=X) (z':=z) (Ls:=[]) (fA:=R.fA) (fc:=R.fc) (fx:=R.fx) (sA:=R.sA) (sc:=R.sc) (tA:=R.tA) (tc:=R.tc) hkn bU hrr G hn yP NG.more (λu hu=> .inl hu) (aG hX).symm G.fly.symm mH⟩
   refine kL 14 rfl oP ad8 ?_;intro anY avh GK;refine dh ?_;refine aU 10 ?_;refine jw 10 rfl ahq (HF _ (Uk.nw hu GK)) ?_;rintro _ anp ⟨rfl,aqs⟩;refine ⟨_,rfl,?_⟩;have uy:=GK.on aqs;refine aK 4 ?_;refine aU 15 ?_;refine X4 15 rfl 0 uy om ?_ (h1:=uI _);intro amB LV;refine aK 3 ?_;refine zN 4 ?_;by_cases ayN:FD.2=0
   ·refine zN 9 ?_;refine je 5 LV om ?_ (h1:=uI _) (hs:=by exact aiU);intro ayO TQ;refine zN 2 ?_;obtain ⟨PW,uK⟩: ∃ r,aX FD.1 x.l.q=r:=⟨_,rfl⟩;have HQ:=λw h=>mo FD.1 x.l.q w h;rw [uK] at HQ;refine lY (X:=Nat) (λxv=>[(0,.pointer (some ⟨kw,0,none⟩)),(3,.pointer (some ⟨b1,0,none⟩)),(6,.pointer (some ⟨xv,0,none⟩)),(7,iV PW.2)]) (λxv wr=>St B w0 wr ((.blk xv #[iV PW.1.node,iV PW.1.epoch] 30)::(.blk anY (((FD.1).cells).toArray) 33)::(.blk b1 (LX.row x) 169)::(.blk kn (dx n X.up (.slice z.tA X.data.length z.tc) X.syn (.slice (some ⟨z.bb,0,none⟩) 4 4) X.hints X.sure (.slice z.iA z.ix.length z.ic) (z.pv) X.turn) 129)::(.own 42 6 (.slice (some ⟨z.bb,0,none⟩) 4 4) 4 ((z.bx).flatMap BX.cells))::(fL z.iA z.ix z.ic)::(bW kw (.slice (some ⟨ab,ao,none⟩) 5 R.nc) FD.1 R.fA R.fx R.fc m.shown R.sA m.aQ R.sc R.tA m.bE R.tc m.calls)::(oL R.fA R.fx R.fc)::(oS R.sA m.aQ R.sc)::(oT R.tA m.bE R.tc)::rr)) ?_ ?_
    ·have xu:=TQ.drew;refine aI 13 xu [] ?_;refine aK 3 ?_;refine ak (v:= .agg (((FD.1).cells).toArray)) 3 rfl xu (λ_ aqt=>(au rfl rfl (aA (cs:=((FD.1).cells)) Tryz.underlying33 rfl om rfl (St.rg 5 aqt rfl (wz))))) ?_;refine aK 2 ?_;refine gN (n:=6) (r:=6) (s:=10) (by kernel_rfl) ?_ ?_
     ·refine jw 6 rfl xW (HQ _ (Uk.nw hu xu)) ?_;rintro _ ai5 ⟨rfl,aqu⟩;refine ⟨_,rfl,?_⟩;have TR:=xu.on aqu;refine aK 4 ?_;refine aU 10 ?_;refine kL 10 rfl TR EH ?_;intro ZE aue YZ;refine dh ?_;refine aU 11 ?_;refine sn 11 rfl 0 YZ iW ?_;intro ayP avA;refine aK 3 ?_;refine dw ZE ?_ ⟨rfl,rfl,rfl,rfl,trivial⟩;exact avA
     refine kL 10 rfl xu EH ?_;intro avB ayQ anZ;refine dh ?_;refine aU 6 ?_;refine jw 6 rfl xW (HQ _ (Uk.nw hu anZ)) ?_;rintro _ ayR ⟨rfl,aqv⟩;refine ⟨_,rfl,?_⟩;have ajq:=anZ.on aqv;refine aK 4 ?_;refine aU 11 ?_;refine sn 11 rfl 0 ajq iW ?_;intro auh Pp;refine aK 3 ?_;refine dw avB ?_ ⟨rfl,rfl,rfl,rfl,trivial⟩;exact Pp
    rintro avC ayS ajw
    try dsimp only at ajw
    refine bH (l':=[(0,.pointer (some ⟨kw,0,none⟩)),(3,.pointer (some ⟨b1,0,none⟩)),(6,.pointer (some ⟨avC,0,none⟩)),(7,iV PW.2)]) ⟨rfl,rfl,rfl,rfl,trivial⟩ (aT (aH (vm ?_)));by_cases ayT:PW.2=0
    ·refine zN 14 ?_;refine vv (v:= .agg #[iV 6,iV (-2),iV x.l.fr,iV ((x.l.q:Nat):Int),iV PW.1.epoch,iV 0,iV PW.1.node,iV 0,iV 0,iV 0,iV 0,iV 0,iV 0,.slice none 0 0,.bool false,iV 0,iV 0,iV 0,iV 0,iV 0,iV 0,iV 0,iV 0]) fQ ?_;have avD:=ajw.dO [7,7];refine dG wX (gD (x:=⟨nH x.l.fr x.l.q PW.1,none,0⟩) avD (by omega)) ?_;rintro _ ayU ⟨rfl,avE,avF,aqw,ahY,avG⟩;refine ⟨_,rfl,?_⟩;refine zQ ?_;refine bO (l':=[]) trivial (gQ (aV (rs:=[]) (vs:=[]) rfl trivial ?_));have aeC:=avG.aR [4,3,2];have an0:=aeC.dO [6,6,3,3,6,6,6];rw [<-pQ] at an0;have kH:eD m.off x.l=FD.1:=by
      unfold eD;rw [Ii,if_pos (by omega)]
     rw [qH (PW:=PW) pK (by rw [kH];exact uK) (by assumption),kH];exact ⟨rfl,Wd.dF (X':=X) (z':=z) (Ls:=[]) (fA:=avE) (fc:=avF) (fx:=aqw) (sA:=R.sA) (sc:=R.sc) (tA:=R.tA) (tc:=R.tc) hkn bU hrr G hn an0 NG.more (by rw [ahY];exact nN (iH rfl)) (aG hX).symm (by rw [ahY,List.map_append,G.fly];rfl) mH⟩
    refine zN 7 ?_;have an1:=ajw.aR [2,1,0];rw [<-pQ] at an1;have kH:eD m.off x.l=FD.1:=by
     unfold eD;rw [Ii,if_pos (by omega)]
    rw [qI (PW:=PW) pK (by rw [kH];exact uK) (by assumption),kH];exact ⟨rfl,Wd.dF (X':=X) (z':=z) (Ls:=[]) (fA:=R.fA) (fc:=R.fc) (fx:=R.fx) (sA:=R.sA) (sc:=R.sc) (tA:=R.tA) (tc:=R.tc) hkn bU hrr G hn an1 NG.more (λu hu=> .inl hu) (aG hX).symm G.fly.symm mH⟩
   refine zN 6 ?_;obtain ⟨PW,uK⟩: ∃ r,aX m.off x.l.q=r:=⟨_,rfl⟩;have HQ:=λw h=>mo m.off x.l.q w h;rw [uK] at HQ;refine lY (X:=Nat) (λxv=>[(0,.pointer (some ⟨kw,0,none⟩)),(3,.pointer (some ⟨b1,0,none⟩)),(6,.pointer (some ⟨xv,0,none⟩)),(7,iV PW.2)]) (λxv wr=>St B w0 wr ((.blk xv #[iV PW.1.node,iV PW.1.epoch] 30)::(.blk anY (((FD.1).cells).toArray) 33)::(.blk b1 (LX.row x) 169)::(.blk kn (dx n X.up (.slice z.tA X.data.length z.tc) X.syn (.slice (some ⟨z.bb,0,none⟩) 4 4) X.hints X.sure (.slice z.iA z.ix.length z.ic) (z.pv) X.turn) 129)::(.own 42 6 (.slice (some ⟨z.bb,0,none⟩) 4 4) 4 ((z.bx).flatMap BX.cells))::(fL z.iA z.ix z.ic)::(bW kw (.slice (some ⟨ab,ao,none⟩) 5 R.nc) m.off R.fA R.fx R.fc m.shown R.sA m.aQ R.sc R.tA m.bE R.tc m.calls)::(oL R.fA R.fx R.fc)::(oS R.sA m.aQ R.sc)::(oT R.tA m.bE R.tc)::rr)) ?_ ?_
   ·have Z5:=LV.drew;refine aI 13 Z5 [] ?_;refine aK 3 ?_;refine ak (v:= .agg ((m.off.cells).toArray)) 3 rfl Z5 (λ_ aqx=>(au rfl rfl (aA (cs:=(m.off.cells)) Tryz.underlying33 rfl om rfl (St.rg 5 aqx rfl (wz))))) ?_;refine aK 2 ?_;refine gN (n:=6) (r:=6) (s:=10) (by kernel_rfl) ?_ ?_
    ·refine jw 6 rfl xW (HQ _ (Uk.nw hu Z5)) ?_;rintro _ ayV ⟨rfl,aqy⟩;refine ⟨_,rfl,?_⟩;have avH:=Z5.on aqy;refine aK 4 ?_;refine aU 10 ?_;refine kL 10 rfl avH EH ?_;intro avI ayW ajx;refine dh ?_;refine aU 11 ?_;refine sn 11 rfl 0 ajx iW ?_;intro ayX Z6;refine aK 3 ?_;refine dw avI ?_ ⟨rfl,rfl,rfl,rfl,trivial⟩;exact Z6
    refine kL 10 rfl Z5 EH ?_;intro avJ ayY an2;refine dh ?_;refine aU 6 ?_;refine jw 6 rfl xW (HQ _ (Uk.nw hu an2)) ?_;rintro _ ayZ ⟨rfl,aqz⟩;refine ⟨_,rfl,?_⟩;have avK:=an2.on aqz;refine aK 4 ?_;refine aU 11 ?_;refine sn 11 rfl 0 avK iW ?_;intro ay0 ajy;refine aK 3 ?_;refine dw avJ ?_ ⟨rfl,rfl,rfl,rfl,trivial⟩;exact ajy
   rintro avL ay1 ajz
   try dsimp only at ajz
   refine bH (l':=[(0,.pointer (some ⟨kw,0,none⟩)),(3,.pointer (some ⟨b1,0,none⟩)),(6,.pointer (some ⟨avL,0,none⟩)),(7,iV PW.2)]) ⟨rfl,rfl,rfl,rfl,trivial⟩ (aT (aH (vm ?_)));by_cases ay2:PW.2=0
   ·refine zN 14 ?_;refine vv (v:= .agg #[iV 6,iV (-2),iV x.l.fr,iV ((x.l.q:Nat):Int),iV PW.1.epoch,iV 0,iV PW.1.node,iV 0,iV 0,iV 0,iV 0,iV 0,iV 0,.slice none 0 0,.bool false,iV 0,iV 0,iV 0,iV 0,iV 0,iV 0,iV 0,iV 0]) fQ ?_;have avM:=ajz.dO [7,7];refine dG wX (gD (x:=⟨nH x.l.fr x.l.q PW.1,none,0⟩) avM (by omega)) ?_;rintro _ ay3 ⟨rfl,avN,avO,aqA,ahZ,aeD⟩;refine ⟨_,rfl,?_⟩;refine zQ ?_;refine bO (l':=[]) trivial (gQ (aV (rs:=[]) (vs:=[]) rfl trivial ?_));have avP:=aeD.aR [4,3,2];have an3:=avP.dO [6,6,3,3,6,6,6];rw [<-pQ] at an3;have kH:eD m.off x.l=m.off:=by
     unfold eD
     first | rw [Ii,if_neg (by omega)] | rw [if_neg (by omega)]
    rw [qH (PW:=PW) pK (by rw [kH];exact uK) (by assumption),kH];exact ⟨rfl,Wd.dF (X':=X) (z':=z) (Ls:=[]) (fA:=avN) (fc:=avO) (fx:=aqA) (sA:=R.sA) (sc:=R.sc) (tA:=R.tA) (tc:=R.tc) hkn bU hrr G hn an3 NG.more (by rw [ahZ];exact nN (iH rfl)) (aG hX).symm (by rw [ahZ,List.map_append,G.fly];rfl) mH⟩
   refine zN 7 ?_;have an4:=ajz.aR [2,1,0];rw [<-pQ] at an4;have kH:eD m.off x.l=m.off:=by
    unfold eD
    first | rw [Ii,if_neg (by omega)] | rw [if_neg (by omega)]
   rw [qI (PW:=PW) pK (by rw [kH];exact uK) (by assumption),kH];exact ⟨rfl,Wd.dF (X':=X) (z':=z) (Ls:=[]) (fA:=R.fA) (fc:=R.fc) (fx:=R.fx) (sA:=R.sA) (sc:=R.sc) (tA:=R.tA) (tc:=R.tc) hkn bU hrr G hn an4 NG.more (λu hu=> .inl hu) (aG hX).symm G.fly.symm mH⟩
  refine zN 6 ?_;obtain ⟨PW,uK⟩: ∃ r,aX m.off x.l.q=r:=⟨_,rfl⟩;have HQ:=λw h=>mo m.off x.l.q w h;rw [uK] at HQ;refine lY (X:=Nat) (λxv=>[(0,.pointer (some ⟨kw,0,none⟩)),(3,.pointer (some ⟨b1,0,none⟩)),(6,.pointer (some ⟨xv,0,none⟩)),(7,iV PW.2)]) (λxv wr=>St B w0 wr ((.blk xv #[iV PW.1.node,iV PW.1.epoch] 30)::(.blk b1 (LX.row x) 169)::(.blk kn (dx n X.up (.slice z.tA X.data.length z.tc) X.syn (.slice (some ⟨z.bb,0,none⟩) 4 4) X.hints X.sure (.slice z.iA z.ix.length z.ic) (z.pv) X.turn) 129)::(.own 42 6 (.slice (some ⟨z.bb,0,none⟩) 4 4) 4 ((z.bx).flatMap BX.cells))::(fL z.iA z.ix z.ic)::(bW kw (.slice (some ⟨ab,ao,none⟩) 5 R.nc) m.off R.fA R.fx R.fc m.shown R.sA m.aQ R.sc R.tA m.bE R.tc m.calls)::(oL R.fA R.fx R.fc)::(oS R.sA m.aQ R.sc)::(oT R.tA m.bE R.tc)::rr)) ?_ ?_
  ·have Z7:=S3.drew;refine aI 13 Z7 [] ?_;refine aK 3 ?_;refine ak (v:= .agg ((m.off.cells).toArray)) 3 rfl Z7 (λ_ aqB=>(au rfl rfl (aA (cs:=(m.off.cells)) Tryz.underlying33 rfl om rfl (St.rg 4 aqB rfl (wz))))) ?_;refine aK 2 ?_;refine gN (n:=6) (r:=6) (s:=10) (by kernel_rfl) ?_ ?_
   ·refine jw 6 rfl xW (HQ _ (Uk.nw hu Z7)) ?_;rintro _ ay4 ⟨rfl,aqC⟩;refine ⟨_,rfl,?_⟩;have avQ:=Z7.on aqC;refine aK 4 ?_;refine aU 10 ?_;refine kL 10 rfl avQ EH ?_;intro avR ay5 avS;refine dh ?_;refine aU 11 ?_;refine sn 11 rfl 0 avS iW ?_;intro ay6 avT;refine aK 3 ?_;refine dw avR ?_ ⟨rfl,rfl,rfl,rfl,trivial⟩;exact avT
   refine kL 10 rfl Z7 EH ?_;intro avU ay7 an5;refine dh ?_;refine aU 6 ?_;refine jw 6 rfl xW (HQ _ (Uk.nw hu an5)) ?_;rintro _ ay8 ⟨rfl,aqD⟩;refine ⟨_,rfl,?_⟩;have avV:=an5.on aqD;refine aK 4 ?_;refine aU 11 ?_;refine sn 11 rfl 0 avV iW ?_;intro ay9 avW;refine aK 3 ?_;refine dw avU ?_ ⟨rfl,rfl,rfl,rfl,trivial⟩;exact avW
  rintro avX aza ajA
  try dsimp only at ajA
  refine bH (l':=[(0,.pointer (some ⟨kw,0,none⟩)),(3,.pointer (some ⟨b1,0,none⟩)),(6,.pointer (some ⟨avX,0,none⟩)),(7,iV PW.2)]) ⟨rfl,rfl,rfl,rfl,trivial⟩ (aT (aH (vm ?_)));by_cases azb:PW.2=0
  ·refine zN 14 ?_;refine vv (v:= .agg #[iV 6,iV (-2),iV x.l.fr,iV ((x.l.q:Nat):Int),iV PW.1.epoch,iV 0,iV PW.1.node,iV 0,iV 0,iV 0,iV 0,iV 0,iV 0,.slice none 0 0,.bool false,iV 0,iV 0,iV 0,iV 0,iV 0,iV 0,iV 0,iV 0]) fQ ?_;have avY:=ajA.dO [6,6];refine dG wX (gD (x:=⟨nH x.l.fr x.l.q PW.1,none,0⟩) avY (by omega)) ?_;rintro _ azc ⟨rfl,avZ,av0,aqE,ah0,av1⟩;refine ⟨_,rfl,?_⟩;refine zQ ?_;refine bO (l':=[]) trivial (gQ (aV (rs:=[]) (vs:=[]) rfl trivial ?_));have aeE:=av1.aR [3,2];have an6:=aeE.dO [6,6,3,3,6,6,6];rw [<-pQ] at an6;have kH:eD m.off x.l=m.off:=by
    unfold eD
    first | rw [Ii,if_neg (by omega)] | rw [if_neg (by omega)]
   rw [qH (PW:=PW) pK (by rw [kH];exact uK) (by assumption),kH];exact ⟨rfl,Wd.dF (X':=X) (z':=z) (Ls:=[]) (fA:=avZ) (fc:=av0) (fx:=aqE) (sA:=R.sA) (sc:=R.sc) (tA:=R.tA) (tc:=R.tc) hkn bU hrr G hn an6 NG.more (by rw [ah0];exact nN (iH rfl)) (aG hX).symm (by rw [ah0,List.map_append,G.fly];rfl) mH⟩
  refine zN 7 ?_;have an7:=ajA.aR [1,0];rw [<-pQ] at an7;have kH:eD m.off x.l=m.off:=by
   unfold eD
   first | rw [Ii,if_neg (by omega)] | rw [if_neg (by omega)]
  rw [qI (PW:=PW) pK (by rw [kH];exact uK) (by assumption),kH];exact ⟨rfl,Wd.dF (X':=X) (z':=z) (Ls:=[]) (fA:=R.fA) (fc:=R.fc) (fx:=R.fx) (sA:=R.sA) (sc:=R.sc) (tA:=R.tA) (tc:=R.tc) hkn bU hrr G hn an7 NG.more (λu hu=> .inl hu) (aG hX).symm G.fly.symm mH⟩
 refine zN 18 ?_;refine gT S3 mixed (by kernel_rfl) ?_;refine zN 3 ?_;refine uv (v:= .slice (some ⟨ab,ao,none⟩) 5 R.nc) (λ_ aqF=>(au rfl rfl (ay Tryz.underlying114 rfl (St.cl 4 aqF rfl yS)))) ?_;refine zQ ?_;refine uv (v:=iV ((n:Nat):Int)) (λ_ aqG=>(pK▸(au rfl rfl (ay Tryz.underlying3 rfl (St.cl 0 aqG rfl rfl))))) ?_;refine uv (λ_ _=>ku n) ?_;refine uv (v:= .pointer (some ⟨kn,0,none⟩)) (λ_ aqH=>(au rfl rfl (ay Tryz.underlying122 rfl (hkn▸uJ harr hn aqH (memT 8 rfl hL))))) ?_;refine zN 4 ?_;refine gY λazd an8=>?_;refine zQ ?_
 cases axv:(X.up)
 ·refine bH (l':=[(0,.pointer (some ⟨kw,0,none⟩)),(3,.pointer (some ⟨b1,0,none⟩)),(76,.bool false)]) ⟨rfl,rfl,rfl,trivial⟩ (kY rfl (pW (gQ (aV (rs:=[]) (vs:=[]) rfl trivial ?_))));have an9:=an8.aR [0];rw [<-pQ] at an9;rw [Z4 pK hX (by assumption)];exact ⟨rfl,Wd.dF (X':=X) (z':=z) (Ls:=[]) (fA:=R.fA) (fc:=R.fc) (fx:=R.fx) (sA:=R.sA) (sc:=R.sc) (tA:=R.tA) (tc:=R.tc) hkn bU hrr G hn an9 NG.more (λu hu=> .inl hu) (aG hX).symm G.fly.symm mH⟩
 refine bH (l':=[(0,.pointer (some ⟨kw,0,none⟩)),(3,.pointer (some ⟨b1,0,none⟩)),(76,.bool true)]) ⟨rfl,rfl,rfl,trivial⟩ (kX rfl (aT (gT an8 mixed (by kernel_rfl) ?_)));refine zN 3 ?_;refine uv (v:= .slice (some ⟨ab,ao,none⟩) 5 R.nc) (λ_ aqI=>(au rfl rfl (ay Tryz.underlying114 rfl (St.cl 4 aqI rfl yS)))) ?_;refine zQ ?_;refine uv (v:=iV ((n:Nat):Int)) (λ_ aqJ=>(pK▸(au rfl rfl (ay Tryz.underlying3 rfl (St.cl 0 aqJ rfl rfl))))) ?_;refine uv (λ_ _=>ku n) ?_;refine uv (v:= .pointer (some ⟨kn,0,none⟩)) (λ_ aqK=>(au rfl rfl (ay Tryz.underlying122 rfl (hkn▸uJ harr hn aqK (memT 8 rfl hL))))) ?_;refine zQ ?_;refine gY λaze av2=>?_;refine zQ ?_;have aeF:=av2.drew;refine eO 11 8 aeF [3] ?_;iterate 6 refine gy ?_
 refine eB (m:=4) (r:=6) (by kernel_rfl) ?_;refine lF (i:=6) rfl rfl (V:=λb=> .slice (some ⟨b,0,none⟩) 1 1) (row:=LX.row x) (t:=169) aeF (wn rfl) rfl rfl (aP (vs:=[(0,.agg (LX.row x))]) rfl ⟨rfl,rfl,trivial⟩ (by kernel_rfl)) ?_;intro azf azg aoa;refine gy ?_;refine eB (m:=3) (r:=7) (by kernel_rfl) ?_;refine XW (i:=7) rfl rfl (news:=(LX.cells x)) (xs':=(z.ix++[x]).flatMap LX.cells) 4 aoa (wn rfl) rfl rfl rfl rfl rfl rfl (St.lJ (xs:=(LX.cells x)) 0 aoa rfl rfl rfl) (by decide) Tryz.underlying115 Ws rfl (by decide) (Cy _) (by simp only [maxLen];omega) (by omega) (jE (enc:=LX.cells) rfl rfl) ?_;intro aob aoc azh av3;refine gy ?_;refine dX (by kernel_rfl) rfl rfl rfl ?_;refine zN 2 ?_;refine je (row':=dx n X.up (.slice z.tA X.data.length z.tc) X.syn (.slice (some ⟨z.bb,0,none⟩) 4 4) X.hints X.sure (.slice aob (z.ix.length+1) aoc) (z.pv) X.turn) 2 av3 AL ?_;intro azi av4;refine zQ ?_;refine iJ ?_;refine bO (l':=[]) trivial (gQ (aV (rs:=[]) (vs:=[]) rfl trivial ?_));have ajB:=av4.aR [1,0];rw [<-pQ] at ajB;have SV:z.ix.length+1=(z.ix++[x]).length:=by simp
 rw [SV] at ajB;rw [Z0 pK hX (by assumption)];exact ⟨rfl,Wd.dF (X':=X.box (X.inbox++[x.l])) (z':={ z with iA:=aob,ic:=aoc,ix:=z.ix++[x] }) (Ls:=[]) (fA:=R.fA) (fc:=R.fc) (fx:=R.fx) (sA:=R.sA) (sc:=R.sc) (tA:=R.tA) (tc:=R.tc) hkn bU hrr G hn ajB (NG.more.aqn (by rw [List.append_nil];exact G.hld x (List.mem_cons_self ..))) (λu hu=> .inl hu) rfl G.fly.symm mH⟩
set_option linter.unnecessarySimpa false
theorem SX {α β:Type} (f:α->β): ∀ (l:List α) (i:Nat),(l.eraseIdx i).map f=(l.map f).eraseIdx i
 | [],_=>rfl
 | _::_,0=>rfl
 | a::l,i+1=>congrArg (f a:: ·) (SX f l i)
theorem Z8 {m:Cl} {at_:Nat} {c s:Bool} (h:m.fly.length=0):m.pick at_ c s=m:=by
 unfold Cl.pick;rw [List.length_eq_zero_iff.1 h];rfl
theorem Am {m:Cl} {at_:Nat} {c s:Bool} {l:iq} (h:m.fly[at_ % m.fly.length]? =some l):m.pick at_ c s=if c=true then (if s=true then m else { m with fly:=m.fly.eraseIdx (at_ % m.fly.length) }).come l else if s=true then m else { m with fly:=m.fly.eraseIdx (at_ % m.fly.length) }:=by
 unfold Cl.pick;rw [h]
theorem Wd.drop1 {K:CK} {B:Nat} {w0 w:World} {fs:List Fact} {m:Cl} {x:LX} {H:List LX} (h:Wd K B w0 w fs m (x::H)):Wd K B w0 w fs m H:=by
 obtain ⟨R,G,S⟩:=h;exact ⟨R,⟨G.fly,G.flo,G.kV,G.arr,λu hu=>G.hld u (List.mem_cons_of_mem _ hu)⟩,S⟩
theorem Ce {K:CK} {B n kn kw:Nat} {w0 w:World} {fs:List Fact} {m:Cl} {H:List LX} {at_:Nat} {comes stays:Bool} (hn:n<5) (hkn:K.nb n=kn) (bU:K.wb=kw) (hu:Uk B w0) (hB1:m.fly.length<=1000000000) (hB2:m.bE.length<=1000000000000) (hib: ∀ j,j<5->(m.ah j).inbox.length<=1000000000) (HW:Wd K B w0 w fs m H) (pK: ∀ l∈m.fly,∃ j,j<5/\(l.tg= -1\/l.tg= -2\/l.tg=((j:Nat):Int))):
    Calls Tryz.prog 71 #[pV kw 0,iV ((at_:Nat):Int),.bool comes,.bool stays] w (λe w'=>e= .returned (.tuple #[])/\Wd K B w0 w' fs (m.pick at_ comes stays) H):=by
 obtain ⟨R,G,S0⟩:=HW.open hn;have hfl:R.fx.length=m.fly.length:=by rw [<-G.fly,List.length_map]
 have NG:=G.kV n hn;obtain ⟨X,hX⟩: ∃ X,m.ah n=X:=⟨_,rfl⟩;obtain ⟨z,hz⟩: ∃ z,R.nx n=z:=⟨_,rfl⟩;rw [hX,hz] at S0 NG;have hL: ∀ f∈R.L,f∈fK K R m fs n:=λf h=>List.mem_append_right _ (List.mem_append_right _ h);obtain ⟨rr,hrr⟩: ∃ r,fK K R m fs n=r:=⟨_,rfl⟩;rw [hrr] at S0 hL;have S:St B w0 w ((bN kn n X.up z.tA X.data z.tc X.syn z.bb X.hints X.sure z.iA z.ix z.ic z.pv X.turn)::(oB z.bb z.bx)::(fL z.iA z.ix z.ic)::(bW kw (.slice R.nA 5 R.nc) m.off R.fA R.fx R.fc m.shown R.sA m.aQ R.sc R.tA m.bE R.tc m.calls)::(oL R.fA R.fx R.fc)::(oS R.sA m.aQ R.sc)::(oT R.tA m.bE R.tc)::rr):=by subst hkn;subst bU;exact S0
 clear S0;have hlen:=(S.own 1 rfl).1;rw [gX (sz:=6) (λ_=>rfl)] at hlen;refine fZ 47 Tryz.func71 ?_;refine cw [0,1,2,3] ?_;refine zN 6 ?_;refine vv (au rfl rfl (ay Tryz.underlying115 rfl (St.cl 3 S rfl Pk))) ?_;refine zQ ?_;by_cases h1:((R.fx.length:Nat):Int)=0
 ·refine zN 7 ?_;rw [Z8 (by rw [<-hfl];omega)];exact ⟨rfl,HW⟩
 refine zN 7 ?_;obtain ⟨g2,hfA⟩:=C9 (S.own 4 rfl) (by omega);have S2:=S;rw [hfA] at S2;obtain ⟨i,hit⟩: ∃ i,i=at_ % R.fx.length:=⟨_,rfl⟩;have hi:i<R.fx.length:=by rw [hit];exact Nat.mod_lt _ (by omega)
 obtain ⟨x,hx⟩: ∃ x,R.fx[i]? =some x:=⟨_,List.getElem?_eq_getElem hi⟩;have hxm:x∈R.fx:=List.mem_of_getElem? hx;have hfi:m.fly[at_ % m.fly.length]? =some x.l:=by rw [<-hfl,<-hit,<-G.fly,List.getElem?_map,hx];rfl
 refine zN 5 ?_;refine vv (au rfl rfl (ay Tryz.underlying115 rfl (St.cl 3 S2 rfl Pk))) ?_;refine zQ ?_;refine vv (v:=iV ((i:Nat):Int)) (aO rfl rfl rfl (SL hit (by omega))) ?_;refine zN 8 ?_;refine vv (au rfl rfl (ay Tryz.underlying115 rfl (St.cl 3 S2 rfl Pk))) ?_;refine zQ ?_;refine vv (ku i) ?_;refine vv (au rfl rfl (aA (cs:=LX.cells x) Tryz.underlying169 rfl vU rfl (Rd.wS (St.ord 4 S2 rfl) (λ_ _ h=>bV (enc:=LX.cells) (sz:=23) (λ_=>rfl) hx h)))) ?_;refine fI S2 aaL ?_;intro b3 w4 S5;refine sa 0 S5 vU ?_;intro w6 S7;refine zN 6 ?_
 cases hb8:(stays)
 ·refine zN 9 ?_;refine vv (au rfl rfl (ay Tryz.underlying115 rfl (St.cl 4 S7 rfl Pk))) ?_;refine zN 2 ?_;refine vv (v:=iV ((i+1:Nat):Int)) jh ?_;have S9:=S7.dO [7,7,7,7,7,7,7];refine dG aoM (QZ g2 R.fx.length R.fc i _ (R.fx.flatMap LX.cells) _ (S9.own 4 rfl) (agC _) hi) ?_;rintro _ Yw ⟨rfl,av5,aod⟩;refine ⟨_,rfl,?_⟩;rw [Io (enc:=LX.cells) (sz:=23) (λ_=>rfl)] at aod;have qN:=S9.aaI 4 rfl av5 aod;refine zN 2 ?_;refine je 3 qN AL ?_ (hs:=by exact aiT);intro KE iw;refine zN 7 ?_
  cases azj:(comes)
  ·refine bH (l':=[(0,pV kw 0),(9,pV b3 0),(43,.bool false)]) ⟨rfl,rfl,rfl,trivial⟩ (kY rfl (pW (aV (rs:=[]) (vs:=[]) rfl trivial ?_)));rw [Am hfi];have SV:R.fx.length-1=(R.fx.eraseIdx i).length:=by rw [List.length_eraseIdx,if_pos hi]
   rw [SV] at iw;have ajC:=Wd.dF (X':=X) (z':=z) (m':={ m with fly:=m.fly.eraseIdx (at_ % m.fly.length) }) (H':=x::H) (Ls:=[.blk b3 #[iV x.l.kd,iV x.l.fr,iV x.l.tg,iV ((x.l.q:Nat):Int),iV x.l.ep,iV x.l.at_,iV x.l.nd,iV x.l.op.kind,iV x.l.op.producer,iV x.l.op.id,iV x.l.op.body,iV x.l.op.aN,iV x.l.op.hno,.slice x.A x.l.evs.length x.c,.bool x.l.last,iV x.l.num,iV x.l.bE.num,iV x.l.bE.ans.code,iV x.l.bE.ans.eP,iV x.l.bE.ans.hno,iV x.l.bE.ans.body,iV x.l.bE.pl.node,iV x.l.bE.pl.epoch] 169]) (fA:=(aD g2 0)) (fc:=R.fc) (fx:=R.fx.eraseIdx i) (sA:=R.sA) (sc:=R.sc) (tA:=R.tA) (tc:=R.tc) hkn bU hrr G hn iw NG.more (λu hu=> .inl (List.mem_of_mem_eraseIdx hu)) (aG hX).symm (by rw [SX,G.fly,hit,hfl]) (λu hu=>(List.mem_cons.1 hu).elim (λe=> .inr (e▸((G.flo x hxm).mono λf hf=>List.mem_append_left _ hf))) .inl);exact ⟨rfl,by simpa [*] using Wd.drop1 ajC⟩
  refine bH (l':=[(0,pV kw 0),(9,pV b3 0),(43,.bool true)]) ⟨rfl,rfl,rfl,trivial⟩ (kX rfl (aH (vm ?_)));refine zQ ?_;have SV:R.fx.length-1=(R.fx.eraseIdx i).length:=by rw [List.length_eraseIdx,if_pos hi]
  rw [SV] at iw;have av6:=Wd.dF (X':=X) (z':=z) (m':={ m with fly:=m.fly.eraseIdx (at_ % m.fly.length) }) (H':=x::H) (Ls:=[.blk b3 #[iV x.l.kd,iV x.l.fr,iV x.l.tg,iV ((x.l.q:Nat):Int),iV x.l.ep,iV x.l.at_,iV x.l.nd,iV x.l.op.kind,iV x.l.op.producer,iV x.l.op.id,iV x.l.op.body,iV x.l.op.aN,iV x.l.op.hno,.slice x.A x.l.evs.length x.c,.bool x.l.last,iV x.l.num,iV x.l.bE.num,iV x.l.bE.ans.code,iV x.l.bE.ans.eP,iV x.l.bE.ans.hno,iV x.l.bE.ans.body,iV x.l.bE.pl.node,iV x.l.bE.pl.epoch] 169]) (fA:=(aD g2 0)) (fc:=R.fc) (fx:=R.fx.eraseIdx i) (sA:=R.sA) (sc:=R.sc) (tA:=R.tA) (tc:=R.tc) hkn bU hrr G hn iw NG.more (λu hu=> .inl (List.mem_of_mem_eraseIdx hu)) (aG hX).symm (by rw [SX,G.fly,hit,hfl]) (λu hu=>(List.mem_cons.1 hu).elim (λe=> .inr (e▸((G.flo x hxm).mono λf hf=>List.mem_append_left _ hf))) .inl);obtain ⟨nn,hnn,htt⟩: ∃ nn,nn<5/\(x.l.tg= -1\/x.l.tg= -2\/x.l.tg=((nn:Nat):Int)):=pK x.l (by rw [<-G.fly];exact List.mem_map_of_mem hxm);refine dG aif (Cc (m:={ m with fly:=m.fly.eraseIdx (at_ % m.fly.length) }) (x:=x) hnn rfl bU hu (by first | omega | (show (m.fly.eraseIdx _).length<=_;have:=List.length_eraseIdx_le m.fly (at_ % m.fly.length);omega)) hB2 (hib nn hnn) av6 htt) ?_;rintro _ FR ⟨rfl,av7⟩;refine ⟨_,rfl,?_⟩;refine zQ ?_;refine bO (l':=[]) trivial (aV (rs:=[]) (vs:=[]) rfl trivial ?_);rw [Am hfi];exact ⟨rfl,by simpa [*] using av7⟩
 refine zN 11 ?_
 cases azk:(comes)
 ·refine bH (l':=[(0,pV kw 0),(9,pV b3 0),(43,.bool false)]) ⟨rfl,rfl,rfl,trivial⟩ (kY rfl (pW (aV (rs:=[]) (vs:=[]) rfl trivial ?_)));rw [Am hfi];have iR:=S7.dO [7,7,7,7,7,7,7];rw [<-hfA] at iR;have av8:=Wd.dF (X':=X) (z':=z) (m':=m) (H':=x::H) (Ls:=[.blk b3 #[iV x.l.kd,iV x.l.fr,iV x.l.tg,iV ((x.l.q:Nat):Int),iV x.l.ep,iV x.l.at_,iV x.l.nd,iV x.l.op.kind,iV x.l.op.producer,iV x.l.op.id,iV x.l.op.body,iV x.l.op.aN,iV x.l.op.hno,.slice x.A x.l.evs.length x.c,.bool x.l.last,iV x.l.num,iV x.l.bE.num,iV x.l.bE.ans.code,iV x.l.bE.ans.eP,iV x.l.bE.ans.hno,iV x.l.bE.ans.body,iV x.l.bE.pl.node,iV x.l.bE.pl.epoch] 169]) (fA:=R.fA) (fc:=R.fc) (fx:=R.fx) (sA:=R.sA) (sc:=R.sc) (tA:=R.tA) (tc:=R.tc) hkn bU hrr G hn iR NG.more (λu hu=> .inl hu) (aG hX).symm G.fly.symm (λu hu=>(List.mem_cons.1 hu).elim (λe=> .inr (e▸((G.flo x hxm).mono λf hf=>List.mem_append_left _ hf))) .inl);exact ⟨rfl,by simpa [*] using Wd.drop1 av8⟩
 refine bH (l':=[(0,pV kw 0),(9,pV b3 0),(43,.bool true)]) ⟨rfl,rfl,rfl,trivial⟩ (kX rfl (aH (vm ?_)));refine zQ ?_;have jG:=S7.dO [7,7,7,7,7,7,7];rw [<-hfA] at jG;have av9:=Wd.dF (X':=X) (z':=z) (m':=m) (H':=x::H) (Ls:=[.blk b3 #[iV x.l.kd,iV x.l.fr,iV x.l.tg,iV ((x.l.q:Nat):Int),iV x.l.ep,iV x.l.at_,iV x.l.nd,iV x.l.op.kind,iV x.l.op.producer,iV x.l.op.id,iV x.l.op.body,iV x.l.op.aN,iV x.l.op.hno,.slice x.A x.l.evs.length x.c,.bool x.l.last,iV x.l.num,iV x.l.bE.num,iV x.l.bE.ans.code,iV x.l.bE.ans.eP,iV x.l.bE.ans.hno,iV x.l.bE.ans.body,iV x.l.bE.pl.node,iV x.l.bE.pl.epoch] 169]) (fA:=R.fA) (fc:=R.fc) (fx:=R.fx) (sA:=R.sA) (sc:=R.sc) (tA:=R.tA) (tc:=R.tc) hkn bU hrr G hn jG NG.more (λu hu=> .inl hu) (aG hX).symm G.fly.symm (λu hu=>(List.mem_cons.1 hu).elim (λe=> .inr (e▸((G.flo x hxm).mono λf hf=>List.mem_append_left _ hf))) .inl);obtain ⟨nn,hnn,htt⟩: ∃ nn,nn<5/\(x.l.tg= -1\/x.l.tg= -2\/x.l.tg=((nn:Nat):Int)):=pK x.l (by rw [<-G.fly];exact List.mem_map_of_mem hxm);refine dG aif (Cc (m:=m) (x:=x) hnn rfl bU hu (by first | omega | (show (m.fly.eraseIdx _).length<=_;have:=List.length_eraseIdx_le m.fly (at_ % m.fly.length);omega)) hB2 (hib nn hnn) av9 htt) ?_;rintro _ Lv ⟨rfl,awc⟩;refine ⟨_,rfl,?_⟩;refine zQ ?_;refine bO (l':=[]) trivial (aV (rs:=[]) (vs:=[]) rfl trivial ?_);rw [Am hfi];exact ⟨rfl,by simpa [*] using awc⟩
theorem Z9 {calls:Nat} {nv fv sv tv x:Value} {d:Dir} {sh:Nat->Nat->Int×Int}:bZ (kG nv d fv sh sv tv calls) 0 [x]=kG x d fv sh sv tv calls:=Gi (Nat.le_of_ble_eq_true rfl) rfl
theorem St.flip {B:Nat} {w0 w:World} {gs fs:List Fact} (S:St B w0 w (gs++fs)):St B w0 w (fs++gs):=S.perm List.perm_append_comm
def ah1 (a b c d e:Nat):Nat->Nat
 | 0=>a
 | 1=>b
 | 2=>c
 | 3=>d
 | _=>e
theorem MH {L:List Fact}: ∀ y∈rJ,Ad L y:=λy hy=>by
 have:y=Oq:=by simpa [rJ] using hy
 subst this;exact ⟨Ro.none_,Nat.zero_le _⟩
theorem RX {B:Nat} {w0 w:World} {fs:List Fact} (S:St B w0 w fs) (hu:Uk B w0):
    Calls Tryz.prog 46 #[] w (λe w'=> ∃ K:CK,e= .returned (pV K.wb 0)/\Wd K B w0 w' fs qm []):=by
 refine fZ 27 Tryz.func46 ?_;refine bH (l':=[]) trivial (aT (aH (va ?_)));refine zN 4 ?_;refine dG aro (U1 _ (Uk.nw hu S)) ?_;rintro _ w1 ⟨rfl,hb3⟩;refine ⟨_,rfl,?_⟩;have S2:=S.on hb3;refine vv (v:= .agg (kG (.slice none 0 0) (⟨nowhere,nowhere,nowhere,nowhere⟩:Dir) (.slice none 0 0) (λ_ _=>(0,0)) (.slice none 0 0) (.slice none 0 0) 0)) fQ ?_;refine iC S2 ?_;intro b4 w5 S6;refine zN 10 ?_;refine MF (lN (aT (aH (vv Ba ?_))));refine zN 17 ?_;refine vv (v:= .agg (dx 0 true (.slice none 0 0) 0 (.slice none 0 0) (λ_=>(⟨0,0⟩:Pl)) (λ_=>false) (.slice none 0 0) (.nilFunc) 0)) fQ ?_;refine iC S6 ?_;intro b7 w8 S9;refine zN 6 ?_;refine dG OZ (mF S9 hu) ?_;rintro _ HY ⟨rfl,awd,l6⟩;refine ⟨_,rfl,?_⟩;refine zN 2 ?_;have yF:=l6.nil 122 1;refine zN 5 ?_;refine vv (au rfl rfl (ay Tryz.underlying114 rfl (St.cl 3 yF rfl yS))) ?_;refine zQ ?_;refine bsI yF ?_;intro b14 Ia lg;refine dU (news:=[pV b7 0]) (xs':=[gu b7]) 1 lg (wn rfl) rfl rfl rfl rfl rfl rfl (St.lJ (xs:=[pV b7 0]) 0 lg rfl rfl rfl) Tryz.underlying114 Cq rfl (by decide) (bT rfl) (by simp only [maxLen];omega) (by omega) rfl ?_;intro KF c18 FR hc21 azl nD;refine zN 2 ?_;refine je 4 nD DY ?_ (hs:=by exact Z9);intro KC jG;refine zN 4 ?_;refine vv (v:=iV 1) jh ?_;refine zN 2 ?_;refine oO (lN (aT (aH (vv Ba ?_))));refine zN 17 ?_;refine vv (v:= .agg (dx 1 true (.slice none 0 0) 0 (.slice none 0 0) (λ_=>(⟨0,0⟩:Pl)) (λ_=>false) (.slice none 0 0) (.nilFunc) 0)) fQ ?_;refine iC jG ?_;intro PU Lv sF;refine zN 6 ?_;refine dG OZ (mF sF hu) ?_;rintro _ w29 ⟨rfl,awe,zV⟩;refine ⟨_,rfl,?_⟩;refine zN 7 ?_;refine vv (au rfl rfl (ay Tryz.underlying114 rfl (St.cl 6 zV rfl yS))) ?_;refine zQ ?_;refine bsI zV ?_;intro b31 w32 qP;refine dU (news:=[pV PU 0]) (xs':=[gu b7,gu PU]) 4 qP (wn rfl) rfl rfl rfl rfl rfl rfl (St.lJ (xs:=[pV PU 0]) 0 qP rfl rfl rfl) Tryz.underlying114 Cq rfl (by decide) (bT rfl) (by simp only [maxLen];omega) (by omega) rfl ?_;intro A34 c35 w36 hc38 aty pE;refine zN 2 ?_;refine je 7 pE DY ?_ (hs:=by exact Z9);intro w40 H6;refine zN 4 ?_;refine vv (v:=iV 2) jh ?_;refine zN 2 ?_;refine oO (lN (aT (aH (vv Ba ?_))));refine zN 17 ?_;refine vv (v:= .agg (dx 2 true (.slice none 0 0) 0 (.slice none 0 0) (λ_=>(⟨0,0⟩:Pl)) (λ_=>false) (.slice none 0 0) (.nilFunc) 0)) fQ ?_;refine iC H6 ?_;intro Xh w43 D9;refine zN 6 ?_;refine dG OZ (mF D9 hu) ?_;rintro _ WS ⟨rfl,awf,yg⟩;refine ⟨_,rfl,?_⟩;refine zN 7 ?_;refine vv (au rfl rfl (ay Tryz.underlying114 rfl (St.cl 9 yg rfl yS))) ?_;refine zQ ?_;refine bsI yg ?_;intro WZ w49 vX;refine dU (news:=[pV Xh 0]) (xs':=[gu b7,gu PU,gu Xh]) 7 vX (wn rfl) rfl rfl rfl rfl rfl rfl (St.lJ (xs:=[pV Xh 0]) 0 vX rfl rfl rfl) Tryz.underlying114 Cq rfl (by decide) (bT rfl) (by simp only [maxLen];omega) (by omega) rfl ?_;intro A51 c52 w53 azm azn l7;refine zN 2 ?_;refine je 10 l7 DY ?_ (hs:=by exact Z9);intro w57 BJ;refine zN 4 ?_;refine vv (v:=iV 3) jh ?_;refine zN 2 ?_;refine oO (lN (aT (aH (vv Ba ?_))));refine zN 17 ?_;refine vv (v:= .agg (dx 3 true (.slice none 0 0) 0 (.slice none 0 0) (λ_=>(⟨0,0⟩:Pl)) (λ_=>false) (.slice none 0 0) (.nilFunc) 0)) fQ ?_
 refine iC BJ ?_;intro SK WW Ea;refine zN 6 ?_;refine dG OZ (mF Ea hu) ?_;rintro _ w63 ⟨rfl,awg,S64⟩;refine ⟨_,rfl,?_⟩;refine zN 7 ?_;refine vv (au rfl rfl (ay Tryz.underlying114 rfl (St.cl 12 S64 rfl yS))) ?_;refine zQ ?_;refine bsI S64 ?_;intro b65 Sv sU;refine dU (news:=[pV SK 0]) (xs':=[gu b7,gu PU,gu Xh,gu SK]) 10 sU (wn rfl) rfl rfl rfl rfl rfl rfl (St.lJ (xs:=[pV SK 0]) 0 sU rfl rfl rfl) Tryz.underlying114 Cq rfl (by decide) (bT rfl) (by simp only [maxLen];omega) (by omega) rfl ?_;intro A68 c69 Yg azo azp rM;refine zN 2 ?_;refine je 13 rM DY ?_ (hs:=by exact Z9);intro w74 EK;refine zN 4 ?_;refine vv (v:=iV 4) jh ?_;refine zN 2 ?_;refine oO (lN (aT (aH (vv Ba ?_))));refine zN 17 ?_;refine vv (v:= .agg (dx 4 true (.slice none 0 0) 0 (.slice none 0 0) (λ_=>(⟨0,0⟩:Pl)) (λ_=>false) (.slice none 0 0) (.nilFunc) 0)) fQ ?_;refine iC EK ?_;intro b76 w77 Ib;refine zN 6 ?_;refine dG OZ (mF Ib hu) ?_;rintro _ w80 ⟨rfl,awh,tV⟩;refine ⟨_,rfl,?_⟩;refine zN 7 ?_;refine vv (au rfl rfl (ay Tryz.underlying114 rfl (St.cl 15 tV rfl yS))) ?_;refine zQ ?_;refine bsI tV ?_;intro b82 w83 Eb;refine dU (news:=[pV b76 0]) (xs':=[gu b7,gu PU,gu Xh,gu SK,gu b76]) 13 Eb (wn rfl) rfl rfl rfl rfl rfl rfl (St.lJ (xs:=[pV b76 0]) 0 Eb rfl rfl rfl) Tryz.underlying114 Cq rfl (by decide) (bT rfl) (by simp only [maxLen];omega) (by omega) rfl ?_;intro A85 c86 w87 azq azr KD;refine zN 2 ?_;refine je 16 KD DY ?_ (hs:=by exact Z9);intro w91 x9;refine zN 4 ?_;refine vv (v:=iV 5) jh ?_;refine zN 2 ?_;refine oO (lN (aT (aH (vv ahz ?_))));refine zN 17 ?_;have BH:St _ _ _ (_::_::_::_::_::_::_::_::_::_::_::_::_::_::_::_::_::fs):=x9.bn 13 rfl;have FQ:=BH.aR [12,9,6,3,0];have Jw:=FQ.nil 81 7;have Cv:=Jw.nil 85 14;have Ec:=Cv.nil 169 23;have BM:=Ec.AP 169 23;have Yb:=BM.AP 169 23;have rz:=Yb.AP 169 23;have uT:=rz.AP 169 23;have rV:=uT.AP 169 23;have qh:=rV.dO [16];have xC:=qh.dO [5];have rA:=xC.dO [10];have Bt:=rA.dO [10];have xA:=Bt.dO [7];have uq:=xA.dO [12];have GU:=uq.dO [12];have qc:=GU.dO [9];have EL:=qc.dO [14];have uS:=EL.dO [14];have mO:=uS.dO [11];have Di:=mO.dO [16];have qg:=Di.dO [16];have xB:=qg.dO [13];have yT:=xB.dO [18];have uR:=yT.dO [18];have rW:=uR.dO [18];have pG:=rW.dO [18];have yQ:=pG.dO [18];have Bj:=yQ.dO [19];refine ⟨⟨b4,ah1 b7 PU Xh SK b76⟩,rfl,⟨λj=>⟨ah1 awd awe awf awg awh j,none,0,rJ,none,0,[],.nilFunc⟩,none,0,[],none,0,none,0,A85,c86,[.bX 1 A85 5 [gu b7,gu PU,gu Xh,gu SK,gu b76]]⟩,?_,St.flip (gs:=[_,_,_,_,_,_,_,_,_,_,_,_,_,_,_,_,_,_,_,_]) (fs:=fs) Bj⟩;exact ⟨rfl,λx hx=>(by cases hx),λn hn=>⟨rfl,MH,Ro.none_,rfl,λy hy=>(by cases hy),rfl⟩,Ro.bX (List.mem_singleton.2 rfl),λx hx=>(by cases hx)⟩
section
variable {m mm:Cl} {n q k:Nat} {a:Ac} {PW:Pl×Int} {T S D K:Nat} {x:iq} {fl:List iq}
theorem agZ (h:aX m.off q=PW): ∃ nn,nn<5/\(PW.2=0->PW.1.node=((nn:Nat):Int)):=by
 subst h;by_cases c:(aX m.off q).2=0
 ·obtain ⟨h1,h2,_⟩:=uh (λh=>h c);exact ⟨_,h1,λ_=>by omega⟩
 exact ⟨0,by omega,λh=>absurd h c⟩
theorem adH (h:fB m T S D K):fB { m with fly:=[] } (T+0) S (D+0) K:=by
 refine ⟨h.kV,λl hl=>(by simp at hl),h.l9,?_,h.aQ,h.bE,h.turn,h.calls⟩;have:=h.room;unfold Cl.tot at this⊢;dsimp only [List.length_nil];omega
theorem adI (h:fl[k]? =some x):(fl.drop k).foldl Cl.come mm=(fl.drop (k+1)).foldl Cl.come (mm.come x):=by rw [drop_cons h,List.foldl_cons]
theorem adJ (h:a.kd=1) (hn:a.nd=((n:Nat):Int)) (hq:a.qu=((q:Nat):Int)):m.act a=m.make n q:=by
 unfold Cl.act;rw [if_pos h,hn,hq,Int.toNat_natCast,Int.toNat_natCast]
theorem adK (h:a.kd=2) (hq:a.qu=((q:Nat):Int)):m.act a={ m with fly:=m.fly++[Ou a.nd q a.op m.calls],calls:=m.calls+1 }:=by
 unfold Cl.act;rw [if_neg (by omega),if_pos h,hq,Int.toNat_natCast]
theorem adL (h:a.kd=3) (hn:a.nd=((n:Nat):Int)):m.act a=m.step n:=by
 unfold Cl.act;rw [if_neg (by omega),if_neg (by omega),if_pos h,hn,Int.toNat_natCast]
theorem IZ (h:a.kd=4\/a.kd=5\/a.kd=6):m.act a=m.pick a.at_.toNat (decide (a.kd≠5)) (decide (a.kd=6)):=by
 unfold Cl.act;rw [if_neg (by omega),if_neg (by omega),if_neg (by omega),if_pos h]
theorem ag0 (h:a.kd=4):m.act a=m.pick a.at_.toNat true false:=by rw [IZ (.inl h),h];rfl
theorem ag1 (h:a.kd=5):m.act a=m.pick a.at_.toNat false false:=by rw [IZ (.inr (.inl h)),h];rfl
theorem ag2 (h:a.kd=6):m.act a=m.pick a.at_.toNat true true:=by rw [IZ (.inr (.inr h)),h];rfl
theorem ag3 (h:a.kd=7):m.act a=m.all:=by
 unfold Cl.act;rw [if_neg (by omega),if_neg (by omega),if_neg (by omega),if_neg (by omega),if_pos h]
theorem MI (h:a.kd=8) (hn:a.nd=((n:Nat):Int)):m.act a=m.crash n a.kp:=by
 unfold Cl.act;rw [if_neg (by omega),if_neg (by omega),if_neg (by omega),if_neg (by omega),if_neg (by omega),if_pos h,hn,Int.toNat_natCast]
theorem aac (h:a.kd=9) (hn:a.nd=((n:Nat):Int)):m.act a=m.start n:=by
 unfold Cl.act;rw [if_neg (by omega),if_neg (by omega),if_neg (by omega),if_neg (by omega),if_neg (by omega),if_neg (by omega),if_pos h,hn,Int.toNat_natCast]
theorem aad (h:a.kd≠1) (h2:a.kd≠2) (h3:a.kd≠3) (h4:a.kd≠4) (h5:a.kd≠5) (h6:a.kd≠6) (h7:a.kd≠7) (h8:a.kd≠8) (h9:a.kd≠9) (hq:a.qu=((q:Nat):Int)):m.act a=m.move q a.nd:=by
 unfold Cl.act;rw [if_neg h,if_neg h2,if_neg h3,if_neg (by omega),if_neg h7,if_neg h8,if_neg h9,hq,Int.toNat_natCast]
theorem adM (h:(m.ah n).up=true) {kp:Int}:m.crash n kp=m.put n ((m.ah n).crashed kp):=if_pos h
theorem aae (h:(m.ah n).up=false) {kp:Int}:m.crash n kp=m:=by
 unfold Cl.crash;rw [if_neg (by rw [h];simp)]
end
theorem adN {K:CK} {B n kn kw:Nat} {w0 w:World} {fs:List Fact} {m:Cl} {H:List LX} {q k:Nat} {a:Ac} (hn:n<5) (hq:q<4) (hnd:a.nd=((n:Nat):Int)) (hqd:a.qu=((q:Nat):Int)) (hkn:K.nb n=kn) (bU:K.wb=kw) (hu:Uk B w0) (HW:Wd K B w0 w fs m H) (pR:fB m (4*k) (500000*k) (500000*k) k) (hk:k<=100000) (ha:Pm a) (hsh:ShN m):
    Calls Tryz.prog 47 #[pV kw 0,.agg #[iV a.kd,iV a.nd,iV a.qu,iV a.at_,iV a.kp,iV a.ek,iV a.ep,iV a.ei,iV a.eb,iV a.eh,iV a.en]] w (λe w'=>e= .returned (.tuple #[])/\Wd K B w0 w' fs (m.act a) H):=by
 obtain ⟨R,G,S0⟩:=HW.open hn;have hfl:R.fx.length=m.fly.length:=by rw [<-G.fly,List.length_map]
 have NG:=G.kV n hn;obtain ⟨X,hX⟩: ∃ X,m.ah n=X:=⟨_,rfl⟩;obtain ⟨z,hz⟩: ∃ z,R.nx n=z:=⟨_,rfl⟩;rw [hX,hz] at S0 NG;have hL: ∀ f∈R.L,f∈fK K R m fs n:=λf h=>List.mem_append_right _ (List.mem_append_right _ h);obtain ⟨rr,hrr⟩: ∃ r,fK K R m fs n=r:=⟨_,rfl⟩;rw [hrr] at S0 hL;have S:St B w0 w ((bN kn n X.up z.tA X.data z.tc X.syn z.bb X.hints X.sure z.iA z.ix z.ic z.pv X.turn)::(oB z.bb z.bx)::(fL z.iA z.ix z.ic)::(bW kw (.slice R.nA 5 R.nc) m.off R.fA R.fx R.fc m.shown R.sA m.aQ R.sc R.tA m.bE R.tc m.calls)::(oL R.fA R.fx R.fc)::(oS R.sA m.aQ R.sc)::(oT R.tA m.bE R.tc)::rr):=by subst hkn;subst bU;exact S0
 clear S0 HW;have hlen:=(S.own 1 rfl).1;rw [gX (sz:=6) (λ_=>rfl)] at hlen;obtain ⟨ab,ao,pQ⟩:=Aj G.arr S (memT 7 rfl hL);have harr:=G.arr;rw [pQ] at S harr;have hcl:=pR.calls;have azs:=pR.fl;have ajD:a.at_=((a.at_.toNat:Nat):Int):=by have:=ha.at_;omega
 refine fZ 144 Tryz.func47 ?_;refine cw [0,1] ?_;refine zN 2 ?_;refine iC S ?_;intro b1 w2 S3;refine zN 11 ?_;by_cases h4:a.kd=1
 ·refine zN 5 ?_;have S5:St B w0 w2 [.blk b1 #[iV a.kd,iV a.nd,iV a.qu,iV a.at_,iV a.kp,iV a.ek,iV a.ep,iV a.ei,iV a.eb,iV a.eh,iV a.en] 77]:=S3.sub (List.Sublist.cons_cons _ (List.nil_sublist _));have SY:=S3.drew;have S6:=S5.drew;refine aI 12 S6 [] ?_;refine aK 5 ?_;refine ak (v:=iV ((n:Nat):Int)) 6 rfl S6 (λ_ ajv=>(Ak hnd (au rfl rfl (ay Tryz.underlying3 rfl (St.cl 0 ajv rfl rfl))))) ?_;refine dh ?_;refine ak (v:=iV ((q:Nat):Int)) 10 rfl S6 (λ_ aiA=>(Ak hqd (au rfl rfl (ay Tryz.underlying3 rfl (St.cl 0 aiA rfl rfl))))) ?_;refine aU 4 ?_;refine gV (i:=4) rfl rfl (v:= .slice (aD ab ao) 5 R.nc) (wn rfl) rfl rfl (au rfl rfl (ay Tryz.underlying114 rfl (St.cl 4 SY rfl yS))) ?_;refine dh ?_;refine ak 7 rfl S6 (λ_ _=>ku n) ?_;refine aU 8 ?_;refine gV (i:=8) rfl rfl (v:=pV kn 0) (wn rfl) rfl rfl (au rfl rfl (ay Tryz.underlying122 rfl (hkn▸uJ harr hn SY (memT 8 rfl hL)))) ?_;refine dh ?_;refine aU 11 ?_;have lg:=SY.dO [7,7,7,7,7,7,7];have iN:=lg;rw [<-pQ] at iN;have ajC:=Wd.dF (m:=m) (m':=m) (H:=H) (H':=H) (fs:=(.blk b1 #[iV a.kd,iV a.nd,iV a.qu,iV a.at_,iV a.kp,iV a.ek,iV a.ep,iV a.ei,iV a.eb,iV a.eh,iV a.en] 77)::fs) (X':=X) (z':=z) (Ls:=[]) (fA:=R.fA) (fc:=R.fc) (fx:=R.fx) (sA:=R.sA) (sc:=R.sc) (tA:=R.tA) (tc:=R.tc) (rr:=(.blk b1 #[iV a.kd,iV a.nd,iV a.qu,iV a.at_,iV a.kp,iV a.ek,iV a.ep,iV a.ei,iV a.eb,iV a.eh,iV a.en] 77)::rr) hkn bU (by rw [<-hrr]<;>rfl) G hn iN NG.more (λu hu=> .inl hu) (aG hX).symm G.fly.symm mI;refine jw 11 rfl arp (VF hn hkn bU hu (by have:=pR.fl;omega) (by have:=pR.aQ;omega) hq ajC (pR.kV n hn).mY (λrs d h=>(pR.kV n hn).avr h)) ?_;rintro _ SA ⟨rfl,aoe⟩;refine ⟨_,rfl,?_⟩;have qR:=Wd.vD (gs:=[.blk b1 #[iV a.kd,iV a.nd,iV a.qu,iV a.at_,iV a.kp,iV a.ek,iV a.ep,iV a.ei,iV a.eb,iV a.eh,iV a.en] 77]) aoe;refine aK 2 ?_;refine bO (l':=[]) trivial (gQ (aV (rs:=[]) (vs:=[]) rfl trivial ?_));rw [adJ (by assumption) hnd hqd];exact ⟨rfl,(Wd.less (gs:=[.blk b1 #[iV a.kd,iV a.nd,iV a.qu,iV a.at_,iV a.kp,iV a.ek,iV a.ep,iV a.ei,iV a.eb,iV a.eh,iV a.en] 77]) aoe)⟩
 refine zN 7 ?_;by_cases h22:a.kd=2
 ·refine zN 6 ?_;have lu:=S3.dO [5,5];have jG:=lu.drew;refine aI 14 jG [1,0] ?_;refine aK 4 ?_;refine ak (v:=iV ((q:Nat):Int)) 4 rfl (jG.oJ [1,0]) (λ_ ZK=>(Ak hqd (au rfl rfl (ay Tryz.underlying3 rfl (St.cl 0 ZK rfl rfl))))) ?_;refine dh ?_;refine ak (v:= .agg #[iV a.ek,iV a.ep,iV a.ei,iV a.eb,iV a.eh,iV a.en]) 6 rfl (jG.oJ [1,0]) (λ_ Yu=>(au rfl rfl (aA (cs:=[iV a.ek,iV a.ep,iV a.ei,iV a.eb,iV a.eh,iV a.en]) Tryz.underlying75 rfl iy rfl (St.rg 0 Yu rfl (nG (x:=5) (m:=6) rfl))))) ?_;refine aK 4 ?_;refine aU 11 ?_;refine gV (i:=11) rfl rfl (v:=iV ((m.calls:Nat):Int)) (wn rfl) rfl rfl (au rfl rfl (ay Tryz.underlying3 rfl (St.cl 0 jG rfl ahF))) ?_;refine dh ?_;refine ak (v:= .agg #[iV 0,iV (-1),iV a.nd,iV ((q:Nat):Int),iV 0,iV 0,iV 0,iV a.ek,iV a.ep,iV a.ei,iV a.eb,iV a.eh,iV a.en,.slice none 0 0,.bool false,iV ((m.calls:Nat):Int),iV 0,iV 0,iV 0,iV 0,iV 0,iV 0,iV 0]) 12 rfl (jG.oJ [1,0]) (λ_ _=>fQ) ?_;refine aU 13 ?_;refine jw 13 rfl wX (gD (x:=⟨Ou a.nd q a.op m.calls,none,0⟩) jG (by have:=pR.fl;omega)) ?_;rintro _ w41 ⟨rfl,A37,c38,anc,aiW,wh⟩;refine ⟨_,rfl,?_⟩;refine aK 2 ?_;refine zN 6 ?_;refine vv (au rfl rfl (ay Tryz.underlying3 rfl (St.cl 0 wh rfl ahF))) ?_;refine vv (v:=iV ((m.calls+1:Nat):Int)) jh ?_;refine zN 3 ?_;refine je 0 wh mM ?_ (hs:=by exact apR);intro w43 D9;refine zQ ?_;refine bO (l':=[]) trivial (gQ (aV (rs:=[]) (vs:=[]) rfl trivial ?_));rw [adK (by assumption) hqd];subst aiW;have nV:=D9.aR [2];have qQ:=nV.dO [6,6,3,3,6,6,6];rw [<-pQ] at qQ;exact ⟨rfl,Wd.dF (X':=X) (z':=z) (Ls:=[]) (fA:=A37) (fc:=c38) (fx:=R.fx++[(⟨Ou a.nd q a.op m.calls,none,0⟩:LX)]) (sA:=R.sA) (sc:=R.sc) (tA:=R.tA) (tc:=R.tc) hkn bU hrr G hn qQ NG.more (nN (iH rfl)) (aG hX).symm (by rw [List.map_append,G.fly];rfl) mI⟩
 refine zN 7 ?_;by_cases h47:a.kd=3
 ·refine zN 5 ?_;have u6:St B w0 w2 [.blk b1 #[iV a.kd,iV a.nd,iV a.qu,iV a.at_,iV a.kp,iV a.ek,iV a.ep,iV a.ei,iV a.eb,iV a.eh,iV a.en] 77]:=S3.sub (List.Sublist.cons_cons _ (List.nil_sublist _));have SY:=S3.drew;have uG:=u6.drew;refine aI 10 uG [] ?_;refine aK 5 ?_;refine ak (v:=iV ((n:Nat):Int)) 6 rfl uG (λ_ aiY=>(Ak hnd (au rfl rfl (ay Tryz.underlying3 rfl (St.cl 0 aiY rfl rfl))))) ?_;refine aU 4 ?_;refine gV (i:=4) rfl rfl (v:= .slice (aD ab ao) 5 R.nc) (wn rfl) rfl rfl (au rfl rfl (ay Tryz.underlying114 rfl (St.cl 4 SY rfl yS))) ?_;refine dh ?_;refine ak 7 rfl uG (λ_ _=>ku n) ?_;refine aU 8 ?_;refine gV (i:=8) rfl rfl (v:=pV kn 0) (wn rfl) rfl rfl (au rfl rfl (ay Tryz.underlying122 rfl (hkn▸uJ harr hn SY (memT 8 rfl hL)))) ?_;refine dh ?_;refine aU 9 ?_;have qd:=SY.dO [7,7,7,7,7,7,7];have zW:=qd;rw [<-pQ] at zW;have awi:=Wd.dF (m:=m) (m':=m) (H:=H) (H':=H) (fs:=(.blk b1 #[iV a.kd,iV a.nd,iV a.qu,iV a.at_,iV a.kp,iV a.ek,iV a.ep,iV a.ei,iV a.eb,iV a.eh,iV a.en] 77)::fs) (X':=X) (z':=z) (Ls:=[]) (fA:=R.fA) (fc:=R.fc) (fx:=R.fx) (sA:=R.sA) (sc:=R.sc) (tA:=R.tA) (tc:=R.tc) (rr:=(.blk b1 #[iV a.kd,iV a.nd,iV a.qu,iV a.at_,iV a.kp,iV a.ek,iV a.ep,iV a.ei,iV a.eb,iV a.eh,iV a.en] 77)::rr) hkn bU (by rw [<-hrr]<;>rfl) G hn zW NG.more (λu hu=> .inl hu) (aG hX).symm G.fly.symm mI;refine jw 9 rfl arq (VE hn hkn bU hu (by have:=pR.fi hn;omega) (by have:=pR.aQ;have:=pR.il hn;omega) (by have:=pR.turn n hn;omega) awi (pR.kV n hn).mY (λl hl=>Dq (pR.l9 n hn l hl)) (λp h=>(pR.kV n hn).fit h)) ?_;rintro _ w61 ⟨rfl,aof⟩;refine ⟨_,rfl,?_⟩;have H8:=Wd.vD (gs:=[.blk b1 #[iV a.kd,iV a.nd,iV a.qu,iV a.at_,iV a.kp,iV a.ek,iV a.ep,iV a.ei,iV a.eb,iV a.eh,iV a.en] 77]) aof;refine aK 2 ?_;refine bO (l':=[]) trivial (gQ (aV (rs:=[]) (vs:=[]) rfl trivial ?_));rw [adL (by assumption) hnd];exact ⟨rfl,(Wd.less (gs:=[.blk b1 #[iV a.kd,iV a.nd,iV a.qu,iV a.at_,iV a.kp,iV a.ek,iV a.ep,iV a.ei,iV a.eb,iV a.eh,iV a.en] 77]) aof)⟩
 refine zN 8 ?_;by_cases h63:a.kd=4
 ·refine zN 11 ?_;refine vv (v:=iV ((a.at_.toNat:Nat):Int)) (Ak ajD (au rfl rfl (ay Tryz.underlying3 rfl (St.cl 0 S3 rfl rfl)))) ?_;refine zN 6 ?_;have S64:=S3.dO [7,7,7,7,7,7,7];have EP:=S64;rw [<-pQ] at EP;have aew:=Wd.dF (m:=m) (m':=m) (H:=H) (H':=H) (fs:=(.blk b1 #[iV a.kd,iV a.nd,iV a.qu,iV a.at_,iV a.kp,iV a.ek,iV a.ep,iV a.ei,iV a.eb,iV a.eh,iV a.en] 77)::fs) (X':=X) (z':=z) (Ls:=[]) (fA:=R.fA) (fc:=R.fc) (fx:=R.fx) (sA:=R.sA) (sc:=R.sc) (tA:=R.tA) (tc:=R.tc) (rr:=(.blk b1 #[iV a.kd,iV a.nd,iV a.qu,iV a.at_,iV a.kp,iV a.ek,iV a.ep,iV a.ei,iV a.eb,iV a.eh,iV a.en] 77)::rr) hkn bU (by rw [<-hrr]<;>rfl) G hn EP NG.more (λu hu=> .inl hu) (aG hX).symm G.fly.symm mI;refine dG aie (Ce hn hkn bU hu (by have:=pR.fl;omega) (by have:=pR.bE;omega) (λj hj=>by have:=pR.il hj;omega) aew (λl hl=>(pR.uH l hl).tgt)) ?_;rintro _ w68 ⟨rfl,ZG⟩;refine ⟨_,rfl,?_⟩;have uF:=Wd.vD (gs:=[.blk b1 #[iV a.kd,iV a.nd,iV a.qu,iV a.at_,iV a.kp,iV a.ek,iV a.ep,iV a.ei,iV a.eb,iV a.eh,iV a.en] 77]) ZG;refine zQ ?_;refine bO (l':=[]) trivial (gQ (aV (rs:=[]) (vs:=[]) rfl trivial ?_));rw [ag0 (by assumption)];exact ⟨rfl,(Wd.less (gs:=[.blk b1 #[iV a.kd,iV a.nd,iV a.qu,iV a.at_,iV a.kp,iV a.ek,iV a.ep,iV a.ei,iV a.eb,iV a.eh,iV a.en] 77]) ZG)⟩
 refine zN 7 ?_;by_cases h70:a.kd=5
 ·refine zN 11 ?_;refine vv (v:=iV ((a.at_.toNat:Nat):Int)) (Ak ajD (au rfl rfl (ay Tryz.underlying3 rfl (St.cl 0 S3 rfl rfl)))) ?_;refine zN 6 ?_;have rM:=S3.dO [7,7,7,7,7,7,7];have sH:=rM;rw [<-pQ] at sH;have awj:=Wd.dF (m:=m) (m':=m) (H:=H) (H':=H) (fs:=(.blk b1 #[iV a.kd,iV a.nd,iV a.qu,iV a.at_,iV a.kp,iV a.ek,iV a.ep,iV a.ei,iV a.eb,iV a.eh,iV a.en] 77)::fs) (X':=X) (z':=z) (Ls:=[]) (fA:=R.fA) (fc:=R.fc) (fx:=R.fx) (sA:=R.sA) (sc:=R.sc) (tA:=R.tA) (tc:=R.tc) (rr:=(.blk b1 #[iV a.kd,iV a.nd,iV a.qu,iV a.at_,iV a.kp,iV a.ek,iV a.ep,iV a.ei,iV a.eb,iV a.eh,iV a.en] 77)::rr) hkn bU (by rw [<-hrr]<;>rfl) G hn sH NG.more (λu hu=> .inl hu) (aG hX).symm G.fly.symm mI;refine dG aie (Ce hn hkn bU hu (by have:=pR.fl;omega) (by have:=pR.bE;omega) (λj hj=>by have:=pR.il hj;omega) awj (λl hl=>(pR.uH l hl).tgt)) ?_;rintro _ w75 ⟨rfl,aog⟩;refine ⟨_,rfl,?_⟩;have Hz:=Wd.vD (gs:=[.blk b1 #[iV a.kd,iV a.nd,iV a.qu,iV a.at_,iV a.kp,iV a.ek,iV a.ep,iV a.ei,iV a.eb,iV a.eh,iV a.en] 77]) aog;refine zQ ?_;refine bO (l':=[]) trivial (gQ (aV (rs:=[]) (vs:=[]) rfl trivial ?_));rw [ag1 (by assumption)];exact ⟨rfl,(Wd.less (gs:=[.blk b1 #[iV a.kd,iV a.nd,iV a.qu,iV a.at_,iV a.kp,iV a.ek,iV a.ep,iV a.ei,iV a.eb,iV a.eh,iV a.en] 77]) aog)⟩
 refine zN 6 ?_;by_cases h77:a.kd=6
 ·refine zN 8 ?_;refine vv (v:=iV ((a.at_.toNat:Nat):Int)) (Ak ajD (au rfl rfl (ay Tryz.underlying3 rfl (St.cl 0 S3 rfl rfl)))) ?_;refine zN 6 ?_;have Ib:=S3.dO [7,7,7,7,7,7,7];have zX:=Ib;rw [<-pQ] at zX;have awk:=Wd.dF (m:=m) (m':=m) (H:=H) (H':=H) (fs:=(.blk b1 #[iV a.kd,iV a.nd,iV a.qu,iV a.at_,iV a.kp,iV a.ek,iV a.ep,iV a.ei,iV a.eb,iV a.eh,iV a.en] 77)::fs) (X':=X) (z':=z) (Ls:=[]) (fA:=R.fA) (fc:=R.fc) (fx:=R.fx) (sA:=R.sA) (sc:=R.sc) (tA:=R.tA) (tc:=R.tc) (rr:=(.blk b1 #[iV a.kd,iV a.nd,iV a.qu,iV a.at_,iV a.kp,iV a.ek,iV a.ep,iV a.ei,iV a.eb,iV a.eh,iV a.en] 77)::rr) hkn bU (by rw [<-hrr]<;>rfl) G hn zX NG.more (λu hu=> .inl hu) (aG hX).symm G.fly.symm mI;refine dG aie (Ce hn hkn bU hu (by have:=pR.fl;omega) (by have:=pR.bE;omega) (λj hj=>by have:=pR.il hj;omega) awk (λl hl=>(pR.uH l hl).tgt)) ?_;rintro _ w82 ⟨rfl,aoh⟩;refine ⟨_,rfl,?_⟩;have zU:=Wd.vD (gs:=[.blk b1 #[iV a.kd,iV a.nd,iV a.qu,iV a.at_,iV a.kp,iV a.ek,iV a.ep,iV a.ei,iV a.eb,iV a.eh,iV a.en] 77]) aoh;refine zQ ?_;refine bO (l':=[]) trivial (gQ (aV (rs:=[]) (vs:=[]) rfl trivial ?_));rw [ag2 (by assumption)];exact ⟨rfl,(Wd.less (gs:=[.blk b1 #[iV a.kd,iV a.nd,iV a.qu,iV a.at_,iV a.kp,iV a.ek,iV a.ep,iV a.ei,iV a.eb,iV a.eh,iV a.en] 77]) aoh)⟩
 refine zN 7 ?_;by_cases h84:a.kd=7
 ·refine zN 10 ?_;refine vv (au rfl rfl (ay Tryz.underlying115 rfl (St.cl 4 S3 rfl Pk))) ?_;refine zN 8 ?_;refine je 4 S3 AL ?_ (hs:=by exact aiT);intro w85 zY;refine zN 10 ?_;have EU:=zY.aR [0];have KD:=EU.nil 169 23;have Kw:=((((((((KD.bring 5 rfl).bring 7 rfl).bring 7 rfl).bring 3 rfl).bring 7 rfl).bring 7 rfl).bring 7 rfl).bring 7 rfl);rw [<-pQ] at Kw;obtain ⟨m1,hm1⟩: ∃ k,k=({ m with fly:=[] }:Cl):=⟨_,rfl⟩;have HW1:Wd K B w0 w85 ((oL R.fA R.fx R.fc)::fs) m1 (R.fx++H):=by
   rw [hm1];exact Wd.dF (m:=m) (H:=H) (fs:=(oL R.fA R.fx R.fc)::fs) (X':=X) (z':=z) (Ls:=[]) (fA:=none) (fc:=0) (fx:=[]) (sA:=R.sA) (sc:=R.sc) (tA:=R.tA) (tc:=R.tc) (rr:=(oL R.fA R.fx R.fc)::rr) hkn bU (by rw [<-hrr];rfl) G hn Kw NG.more (λu hu=>by simp at hu) (aG hX).symm rfl (λu hu=>(List.mem_append.1 hu).elim (λh=> .inr ((G.flo u h).mono λf hf=>List.mem_append_left _ hf)) .inl)
  have hB0:=adH pR;rw [<-hm1] at hB0;refine fH (X:=Nat×Cl) (λxv=>[(0,pV kw 0),(90,.slice R.fA R.fx.length R.fc),(91,iV ((R.fx.length:Nat):Int)),(92,iV ((xv.1:Nat):Int))]) (λxv wr=>(Wd K B w0 wr ((oL R.fA R.fx R.fc)::fs) xv.2 (R.fx.drop xv.1++H))/\(m.fly.foldl Cl.come m1=(m.fly.drop xv.1).foldl Cl.come xv.2)/\(xv.1<=R.fx.length)/\(fB xv.2 (4*k+xv.1) (500000*k) (500000*k+xv.1) k)/\St B w0 wr [.own 169 23 (.slice R.fA R.fx.length R.fc) R.fx.length ((R.fx).flatMap LX.cells)]) (λxv=>R.fx.length-xv.1) (0,m1) ?_ ?_ ?_
  ·exact ⟨HW1,rfl,Nat.zero_le _,hB0,Wd.vD (gs:=[.own 169 23 (.slice R.fA R.fx.length R.fc) R.fx.length ((R.fx).flatMap LX.cells)]) HW1⟩
  ·exact ⟨rfl,rfl,rfl,rfl,trivial⟩
  rintro ⟨k2,mm⟩ w90 ⟨ajE,ajF,awl,aaf,Ky⟩
  try dsimp only at ajE ajF awl aaf Ky
  refine bH (l':=[(0,pV kw 0),(90,.slice R.fA R.fx.length R.fc),(91,iV ((R.fx.length:Nat):Int)),(92,iV ((k2:Nat):Int))]) ⟨rfl,rfl,rfl,rfl,trivial⟩ ?_;obtain ⟨R3,G3,SS⟩:=ajE.open hn;have QH:=G3.kV n hn;obtain ⟨X3,Al⟩: ∃ X,mm.ah n=X:=⟨_,rfl⟩;obtain ⟨z3,hz3⟩: ∃ z,R3.nx n=z:=⟨_,rfl⟩;rw [Al,hz3] at SS QH;obtain ⟨Xk,Hg⟩: ∃ r,fK K R3 mm fs n=r:=⟨_,rfl⟩;have Cv:St B w0 w90 ((bN kn n X3.up z3.tA X3.data z3.tc X3.syn z3.bb X3.hints X3.sure z3.iA z3.ix z3.ic z3.pv X3.turn)::(oB z3.bb z3.bx)::(fL z3.iA z3.ix z3.ic)::(bW kw (.slice R3.nA 5 R3.nc) mm.off R3.fA R3.fx R3.fc mm.shown R3.sA mm.aQ R3.sc R3.tA mm.bE R3.tc mm.calls)::(oL R3.fA R3.fx R3.fc)::(oS R3.sA mm.aQ R3.sc)::(oT R3.tA mm.bE R3.tc)::(oL R.fA R.fx R.fc)::Xk):=by rw [<-Hg];subst hkn;subst bU;exact SS
  clear SS;refine zN 2 ?_;by_cases h97:((k2:Nat):Int)< ((R.fx.length:Nat):Int)
  ·refine zN 10 ?_;obtain ⟨x,hx⟩: ∃ x,R.fx[k2]? =some x:=⟨_,List.getElem?_eq_getElem (by omega)⟩;have hxf:m.fly[k2]? =some x.l:=by rw [<-G.fly,List.getElem?_map,hx];rfl
   have hxb:=pR.uH x.l (List.mem_of_getElem? hxf);refine zQ ?_;obtain ⟨fb,fo,hfA⟩:=rd_some (St.ord 7 Cv rfl) (by omega);refine vv (v:=pV fb (fo+k2*23)) (bD rfl rfl rfl (jV k2 hfA Tryz.underlying115 vU (by omega) (by omega))) ?_;refine vv (v:= .agg (LX.row x)) (au rfl rfl (aA (cs:=LX.cells x) Tryz.underlying169 rfl vU rfl (λj u hu=>by rw [Nat.add_assoc];exact He (St.ord 7 Cv rfl) hfA (bV (enc:=LX.cells) (sz:=23) (k:=k2) (λ_=>rfl) hx hu)))) ?_;refine fI Cv aaL ?_;intro b98 w99 rz;refine stA 0 rz vU ?_ (h1:=Cy _);intro amD rV;refine zN 5 ?_;have qh:=rV.aR [0];have aqL:=Wd.dF (m:=mm) (m':=mm) (H:=R.fx.drop k2++H) (H':=x::(R.fx.drop (k2+1)++H)) (fs:=(oL R.fA R.fx R.fc)::fs) (X':=X3) (z':=z3) (Ls:=[]) (fA:=R3.fA) (fc:=R3.fc) (fx:=R3.fx) (sA:=R3.sA) (sc:=R3.sc) (tA:=R3.tA) (tc:=R3.tc) (rr:=(oL R.fA R.fx R.fc)::Xk) hkn bU (by rw [<-Hg];rfl) G3 hn ((((((((qh.bring 7 rfl).bring 7 rfl).bring 7 rfl).bring 7 rfl).bring 7 rfl).bring 7 rfl).bring 7 rfl).bring 7 rfl) QH.more (λu hu=> .inl hu) (aG Al).symm G3.fly.symm (by rw [drop_cons hx];exact mI);obtain ⟨jj,hjj,htt⟩:=hxb.tgt;refine dG aif (Cc (m:=mm) (x:=x) hjj rfl bU hu (by have:=(aaf).fl;omega) (by have:=(aaf).bE;omega) (by have:=(aaf).il hjj;omega) aqL htt) ?_;rintro _ YS ⟨rfl,aaX⟩;refine ⟨_,rfl,?_⟩;obtain ⟨mc,hmc⟩: ∃ k,k=mm.come x.l:=⟨_,rfl⟩;have xA:=Wd.vD (gs:=[.own 169 23 (.slice R.fA R.fx.length R.fc) R.fx.length ((R.fx).flatMap LX.cells)]) aaX;refine zN 4 ?_;refine vv (v:=iV ((k2+1:Nat):Int)) jh ?_;refine zN 2 ?_;refine bQ (k2+1,mc) ?_ ⟨rfl,rfl,rfl,rfl,trivial⟩ (by first | omega | (dsimp only;omega));exact ⟨(by dsimp only;rw [hmc];exact aaX),(by dsimp only;rw [ajF,adI hxf,<-hmc]),(by dsimp only;omega),(by dsimp only;rw [hmc];exact (Fh aaf hxb).mono (by omega) (Nat.le_refl _) (by omega) (Nat.le_refl _)),(Wd.vD (gs:=[.own 169 23 (.slice R.fA R.fx.length R.fc) R.fx.length ((R.fx).flatMap LX.cells)]) (hmc▸aaX))⟩
  refine zN 11 ?_;have p9:m.act a=mm:=by rw [ag3 (by assumption)];show m.fly.foldl Cl.come { m with fly:=[] }=mm;rw [<-hm1,ajF,List.drop_eq_nil_of_le (by omega)];rfl
  rw [p9];have awm:R.fx.length<=k2:=by omega
  exact ⟨rfl,Wd.less (gs:=[.own 169 23 (.slice R.fA R.fx.length R.fc) R.fx.length ((R.fx).flatMap LX.cells)]) (by have h9:=ajE;rw [List.drop_eq_nil_of_le awm] at h9;exact h9)⟩
 refine zN 7 ?_;by_cases ajm:a.kd=8
 ·refine zN 6 ?_;refine gT S3 mixed (by kernel_rfl) ?_;refine zN 3 ?_;refine uv (v:= .slice (aD ab ao) 5 R.nc) (λ_ aqM=>(au rfl rfl (ay Tryz.underlying114 rfl (St.cl 4 aqM rfl yS)))) ?_;refine zQ ?_;refine uv (v:=iV ((n:Nat):Int)) (λ_ aqN=>(Ak hnd (au rfl rfl (ay Tryz.underlying3 rfl (St.cl 0 aqN rfl rfl))))) ?_;refine uv (λ_ _=>ku n) ?_;refine uv (v:=pV kn 0) (λ_ aqO=>(au rfl rfl (ay Tryz.underlying122 rfl (hkn▸uJ harr hn aqO (memT 8 rfl hL))))) ?_;refine zQ ?_;refine gY λajn rW=>?_;refine zN 9 ?_
  cases axw:(X.up)
  ·refine bH (l':=[(3,pV b1 0),(7,pV kn 0),(113,.bool false)]) ⟨rfl,rfl,rfl,trivial⟩ (kY rfl (pW (gQ (aV (rs:=[]) (vs:=[]) rfl trivial ?_))));have yQ:=rW.aR [0];have yN:=yQ;rw [<-pQ] at yN;have aqP:=Wd.dF (m:=m) (m':=m) (H:=H) (H':=H) (fs:=fs) (X':=X) (z':=z) (Ls:=[]) (fA:=R.fA) (fc:=R.fc) (fx:=R.fx) (sA:=R.sA) (sc:=R.sc) (tA:=R.tA) (tc:=R.tc) (rr:=rr) hkn bU (by rw [<-hrr]<;>rfl) G hn yN NG.more (λu hu=> .inl hu) (aG hX).symm G.fly.symm mI;rw [MI (by assumption) hnd,aae (by rw [hX];assumption)];exact ⟨rfl,aqP⟩
  refine bH (l':=[(3,pV b1 0),(7,pV kn 0),(113,.bool true)]) ⟨rfl,rfl,rfl,trivial⟩ (kX rfl (aT ?_));have Mv:=rW.drew;refine aI 14 Mv [1] ?_;refine aK 6 ?_;refine aU 4 ?_;refine gV (i:=4) rfl rfl (v:= .agg #[.slice z.tA X.data.length z.tc,iV X.syn]) (wn rfl) rfl rfl (au rfl rfl (aA (cs:=[.slice z.tA X.data.length z.tc,iV X.syn]) Tryz.underlying125 rfl eH rfl (St.rg 1 Mv rfl (qV)))) ?_;refine dh ?_;refine aU 7 ?_;refine jw 7 rfl ars (zJ (QX z.tA X.data.length z.tc X.data X.syn a.kp _ (NG.wD.rd Mv (memT 8 rfl hL)))) ?_;rintro _ Yy ⟨aeG,ajG,rfl,awn⟩;refine ⟨_,rfl,?_⟩;have yO:=Mv.ext awn rfl;refine aK 6 ?_;refine aU 13 ?_;refine snz (row':=dx n X.up (.slice aeG ((lX X.data X.syn a.kp).1.length) ajG) ((lX X.data X.syn a.kp).2.1) (.slice (aD z.bb 0) 4 4) X.hints X.sure (.slice z.iA z.ix.length z.ic) (z.pv) X.turn) 13 rfl 2 yO eH ?_;intro anN GI;refine aK 2 ?_;refine zN 6 ?_;refine je (row':=dx n false (.slice aeG ((lX X.data X.syn a.kp).1.length) ajG) ((lX X.data X.syn a.kp).2.1) (.slice (aD z.bb 0) 4 4) X.hints X.sure (.slice z.iA z.ix.length z.ic) (z.pv) X.turn) 2 GI Gs ?_;intro awo Ui;refine zN 4 ?_;have J2:=Ui.dO [2];refine dG OZ (mF J2 hu) ?_;rintro _ amH ⟨rfl,aqQ,Bf⟩;refine ⟨_,rfl,?_⟩;have yP:=Bf.aR [5,4,3];refine zQ ?_;refine bO (l':=[]) trivial (gQ (aV (rs:=[]) (vs:=[]) rfl trivial ?_));rw [MI (by assumption) hnd,adM (by rw [hX];assumption)];have ZC:=yP.AP 169 23;have LU:=ZC.dO [7,7,7,7,4,6,6];rw [<-pQ] at LU;exact ⟨rfl,Wd.dF (X':=X.crashed a.kp) (z':={ bb:=aqQ,tA:=aeG,tc:=ajG,bx:=rJ,iA:=none,ic:=0,ix:=[],pv:= .nilFunc }) (Ls:=[.bX 1 aeG ((lX X.data X.syn a.kp).1.length) (byteCells ((lX X.data X.syn a.kp).1))]) (fA:=R.fA) (fc:=R.fc) (fx:=R.fx) (sA:=R.sA) (sc:=R.sc) (tA:=R.tA) (tc:=R.tc) hkn bU hrr G hn LU ⟨rfl,MH,Ro.bX (List.mem_append_right _ (List.mem_singleton.2 rfl)),rfl,λy hy=>(by cases hy),rfl⟩ (λu hu=> .inl hu) (by rw [hX];rfl) G.fly.symm mI⟩
 refine zN 7 ?_;by_cases azt:a.kd=9
 ·refine zN 5 ?_;have ajl:St B w0 w2 [.blk b1 #[iV a.kd,iV a.nd,iV a.qu,iV a.at_,iV a.kp,iV a.ek,iV a.ep,iV a.ei,iV a.eb,iV a.eh,iV a.en] 77]:=S3.sub (List.Sublist.cons_cons _ (List.nil_sublist _));have SY:=S3.drew;have uy:=ajl.drew;refine aI 10 uy [] ?_;refine aK 5 ?_;refine ak (v:=iV ((n:Nat):Int)) 6 rfl uy (λ_ aaO=>(Ak hnd (au rfl rfl (ay Tryz.underlying3 rfl (St.cl 0 aaO rfl rfl))))) ?_;refine aU 4 ?_;refine gV (i:=4) rfl rfl (v:= .slice (aD ab ao) 5 R.nc) (wn rfl) rfl rfl (au rfl rfl (ay Tryz.underlying114 rfl (St.cl 4 SY rfl yS))) ?_;refine dh ?_;refine ak 7 rfl uy (λ_ _=>ku n) ?_;refine aU 8 ?_;refine gV (i:=8) rfl rfl (v:=pV kn 0) (wn rfl) rfl rfl (au rfl rfl (ay Tryz.underlying122 rfl (hkn▸uJ harr hn SY (memT 8 rfl hL)))) ?_;refine dh ?_;refine aU 9 ?_;have GL:=SY.dO [7,7,7,7,7,7,7];have TQ:=GL;rw [<-pQ] at TQ;have Uj:=Wd.dF (m:=m) (m':=m) (H:=H) (H':=H) (fs:=(.blk b1 #[iV a.kd,iV a.nd,iV a.qu,iV a.at_,iV a.kp,iV a.ek,iV a.ep,iV a.ei,iV a.eb,iV a.eh,iV a.en] 77)::fs) (X':=X) (z':=z) (Ls:=[]) (fA:=R.fA) (fc:=R.fc) (fx:=R.fx) (sA:=R.sA) (sc:=R.sc) (tA:=R.tA) (tc:=R.tc) (rr:=(.blk b1 #[iV a.kd,iV a.nd,iV a.qu,iV a.at_,iV a.kp,iV a.ek,iV a.ep,iV a.ei,iV a.eb,iV a.eh,iV a.en] 77)::rr) hkn bU (by rw [<-hrr]<;>rfl) G hn TQ NG.more (λu hu=> .inl hu) (aG hX).symm G.fly.symm mI;refine jw 9 rfl aru (RV hn hkn bU hu (by have:=pR.fl;omega) (by have:=pR.aQ;omega) Uj (pR.kV n hn).OO.1 (pR.kV n hn).OO.2.1 (pR.kV n hn).OO.2.2.1 (pR.kV n hn).OO.2.2.2 hsh) ?_;rintro _ asQ ⟨rfl,ah2⟩;refine ⟨_,rfl,?_⟩;have amC:=Wd.vD (gs:=[.blk b1 #[iV a.kd,iV a.nd,iV a.qu,iV a.at_,iV a.kp,iV a.ek,iV a.ep,iV a.ei,iV a.eb,iV a.eh,iV a.en] 77]) ah2;refine aK 2 ?_;refine bO (l':=[]) trivial (gQ (aV (rs:=[]) (vs:=[]) rfl trivial ?_));rw [aac (by assumption) hnd];exact ⟨rfl,(Wd.less (gs:=[.blk b1 #[iV a.kd,iV a.nd,iV a.qu,iV a.at_,iV a.kp,iV a.ek,iV a.ep,iV a.ei,iV a.eb,iV a.eh,iV a.en] 77]) ah2)⟩
 refine zN 8 ?_;refine vv (v:=iV ((q:Nat):Int)) (Ak hqd (au rfl rfl (ay Tryz.underlying3 rfl (St.cl 0 S3 rfl rfl)))) ?_;refine zN 2 ?_;obtain ⟨PW,uK⟩: ∃ r,aX m.off q=r:=⟨_,rfl⟩;obtain ⟨nn,hnn,hwn⟩:=agZ uK;have ajH:=S3.dO [7,7,7,7,7,7,7];have TG:=ajH;rw [<-pQ] at TG;have aqR:=Wd.dF (m:=m) (m':=m) (H:=H) (H':=H) (fs:=(.blk b1 #[iV a.kd,iV a.nd,iV a.qu,iV a.at_,iV a.kp,iV a.ek,iV a.ep,iV a.ei,iV a.eb,iV a.eh,iV a.en] 77)::fs) (X':=X) (z':=z) (Ls:=[]) (fA:=R.fA) (fc:=R.fc) (fx:=R.fx) (sA:=R.sA) (sc:=R.sc) (tA:=R.tA) (tc:=R.tc) (rr:=(.blk b1 #[iV a.kd,iV a.nd,iV a.qu,iV a.at_,iV a.kp,iV a.ek,iV a.ep,iV a.ei,iV a.eb,iV a.eh,iV a.en] 77)::rr) hkn bU (by rw [<-hrr]<;>rfl) G hn TG NG.more (λu hu=> .inl hu) (aG hX).symm G.fly.symm mI;refine dG arv (VG hnn rfl bU hu (by have:=pR.fl;omega) (by have:=pR.aQ;omega) hq aqR (pR.kV nn hnn).mY uK hwn) ?_;rintro _ ai5 ⟨rfl,ah3⟩;refine ⟨_,rfl,?_⟩;have TR:=Wd.vD (gs:=[.blk b1 #[iV a.kd,iV a.nd,iV a.qu,iV a.at_,iV a.kp,iV a.ek,iV a.ep,iV a.ei,iV a.eb,iV a.eh,iV a.en] 77]) ah3;refine zQ ?_;refine bO (l':=[]) trivial (gQ (aV (rs:=[]) (vs:=[]) rfl trivial ?_));rw [aad (by assumption) (by assumption) (by assumption) (by assumption) (by assumption) (by assumption) (by assumption) (by assumption) (by assumption) hqd];exact ⟨rfl,(Wd.less (gs:=[.blk b1 #[iV a.kd,iV a.nd,iV a.qu,iV a.at_,iV a.kp,iV a.ek,iV a.ep,iV a.ei,iV a.eb,iV a.eh,iV a.en] 77]) ah3)⟩
theorem St.jy {B:Nat} {w0 w:World} {fs:List Fact} {b n s:Nat} {row:Array Value} {t:TypeId} {xs:List Value} (i:Nat) (S:St B w0 w fs) (hi:fs[i]? =some (.blk b row t)) (hx:row.toList=xs) (hl:xs.length=n*s):St B w0 w (fs.set i (.bX s (some ⟨b,0,none⟩) n xs)):=
 St.turn i S hi S.low (Nat.le_refl _) (λ_ _ _=>rfl) ⟨St.lJ i S hi hx hl,λa h=>by cases h;exact ⟨St.ge i S hi,St.lt i S hi⟩⟩ (λk hk=> .inl hk)
def cO (g:Nat) (p:Nat×Int):List Value:=[.pointer (some ⟨g,p.1,none⟩),.int .i64 p.2]
def bP (kd ek:Int):ByteArray:=
 if kd=1 then ⟨#[109,97,107,101]⟩ else if kd=10 then ⟨#[109,111,118,101]⟩ else if kd=3 then ⟨#[115,116,101,112]⟩ else if kd=9 then ⟨#[115,116,97,114,116]⟩ else if kd=8 then ⟨#[99,114,97,115,104]⟩
 else if kd=4 then ⟨#[99,97,114,114,121]⟩ else if kd=5 then ⟨#[108,111,115,101]⟩ else if kd=6 then ⟨#[100,111,117,98,108,101]⟩ else if kd=7 then ⟨#[97,108,108]⟩
 else if kd=2 then (if ek=1 then ⟨#[112,117,98,108,105,115,104]⟩ else if ek=2 then ⟨#[114,101,99,101,105,118,101]⟩ else if ek=3 then ⟨#[97,99,107]⟩ else ⟨#[]⟩) else ⟨#[]⟩
def adO (w:World) (g:Nat) (u:ByteArray) (r:Option (List (Nat×Int))) (e:Ending) (w':World):Prop:=match r with
 | none=>e= .returned (.tuple #[.string u,.slice none 0 0,.bool false])/\Below w.heap.size w w'
 | some l=> ∃ A,e= .returned (.tuple #[.string u,.slice A l.length l.length,.bool true])/\St w.heap.size w w' [.bX 2 A l.length (l.flatMap (cO g))]
theorem Ac.ah4 (x:Ac) {i:Nat} (h:i<11):x.cells.toArray[i]? =some (.int .i64 (x.get i)):=by rw [List.getElem?_toArray];exact x.cell h
theorem VJ (g:Nat) (x:Ac) (w:World) (h:Rd w w.heap.size 11 (aD g 0) 1 x.cells):
    Calls Tryz.prog 65 #[pV g 0] w (adO w g (bP x.kd x.ek) (bM x.kd x.ek)):=by
 have S:=(St.start w).bS h;refine fZ 111 Tryz.func65 ?_;refine cw [0] ?_;refine zN 8 ?_;have S1:=S.drew;refine Gq (C:=λw'=>St w.heap.size w w' [.rd 11 (aD g 0) 1 x.cells]) (n:=12) (listed:= #[false,false,false,false,false,false,false,false,false,false,false,false]) mixed rfl rfl ?_;refine aK 3 ?_;refine ak (v:= .agg #[pV g 1,iV 4]) 3 rfl S1 (λ_ _=>fQ) ?_;refine aK 3 ?_;refine ak (v:= .agg #[pV g 2,iV 3]) 7 rfl S1 (λ_ _=>fQ) ?_;refine gN (n:=3) (r:=8) (s:=9) (by kernel_rfl) ?_ ?_
 ·refine kL 8 rfl S1 D5 ?_;intro b10 HY l6;refine dh ?_;refine aU 9 ?_;refine kL 9 rfl l6 D5 ?_;intro b13 KE iw;refine dh ?_;refine aU 10 ?_;refine sn 10 rfl 1 iw sD ?_;intro w16 lG;refine dh ?_;refine aU 11 ?_;refine sn 11 rfl 0 lG sD ?_;intro Kv kT;refine aK 2 ?_;refine zN 6 ?_;refine vv (v:= .agg #[pV g 3,iV 1048576]) fQ ?_;refine fI kT D5 ?_;intro b20 EO iR;refine sa 0 iR sD ?_;intro KC jG;refine zN 8 ?_;refine vv (v:=iV x.kd) (au rfl rfl (ay Tryz.underlying3 rfl (Rd.cl (j:=0) (St.rd 3 jG rfl) rfl))) ?_;refine zN 5 ?_;by_cases tq:x.kd=1
  ·refine zN 6 ?_;have oP:=jG.drew;refine aI 6 oP [] ?_;refine aK 3 ?_;refine aU 2 ?_;refine jC (i:=2) rfl rfl (V:=λb=> .slice (aD b 0) 2 2) (row:= #[pV g 2,iV 3,pV g 1,iV 4]) (t:=164) oP (wn rfl) rfl rfl (aP (vs:=[(0,.agg #[pV g 2,iV 3]),(1,.agg #[pV g 1,iV 4])]) rfl ⟨rfl,rfl,rfl,rfl,trivial⟩ (by kernel_rfl)) ?_;intro b30 WR pz;refine aK 4 ?_;refine zN 5 ?_;rw [show bP x.kd x.ek=⟨#[109,97,107,101]⟩ from by simp [bP,tq]];have sW:=pz.aR [4,3,2,1];rw [show bM x.kd x.ek=some [(2,3),(1,4)] from by simp [bM,tq]];exact ⟨_,rfl,St.jy (n:=2) (xs:=([(2,3),(1,4)]:List (Nat×Int)).flatMap (cO g)) 0 sW rfl rfl rfl⟩
  refine zN 7 ?_;by_cases yj:x.kd=10
  ·refine zN 6 ?_;have pE:=jG.drew;refine aI 6 pE [] ?_;refine aK 3 ?_;refine aU 2 ?_;refine jC (i:=2) rfl rfl (V:=λb=> .slice (aD b 0) 2 2) (row:= #[pV g 2,iV 3,pV g 1,iV 4]) (t:=164) pE (wn rfl) rfl rfl (aP (vs:=[(0,.agg #[pV g 2,iV 3]),(1,.agg #[pV g 1,iV 4])]) rfl ⟨rfl,rfl,rfl,rfl,trivial⟩ (by kernel_rfl)) ?_;intro b41 Sr sG;refine aK 4 ?_;refine zN 5 ?_;rw [show bP x.kd x.ek=⟨#[109,111,118,101]⟩ from by simp [bP,tq,yj]];have qQ:=sG.aR [4,3,2,1];rw [show bM x.kd x.ek=some [(2,3),(1,4)] from by simp [bM,tq,yj]];exact ⟨_,rfl,St.jy (n:=2) (xs:=([(2,3),(1,4)]:List (Nat×Int)).flatMap (cO g)) 0 qQ rfl rfl rfl⟩
  refine zN 7 ?_;by_cases h47:x.kd=3
  ·refine zN 6 ?_;have u6:=jG.drew;refine aI 5 u6 [] ?_;refine aK 2 ?_;refine aU 1 ?_;refine EI 1 rfl u6 ?_;intro b51 w52 xZ;refine aK 4 ?_;refine zN 5 ?_;rw [show bP x.kd x.ek=⟨#[115,116,101,112]⟩ from by simp [bP,tq,yj,h47]];have FW:=xZ.aR [4,3,2,1];rw [show bM x.kd x.ek=some [(1,4)] from by simp [bM,tq,yj,h47]];exact ⟨_,rfl,St.jy (n:=1) (xs:=([(1,4)]:List (Nat×Int)).flatMap (cO g)) 0 FW rfl rfl rfl⟩
  refine zN 7 ?_;by_cases h57:x.kd=9
  ·refine zN 6 ?_;have BJ:=jG.drew;refine aI 5 BJ [] ?_;refine aK 2 ?_;refine aU 1 ?_;refine EI 1 rfl BJ ?_;intro b61 WK u7;refine aK 4 ?_;refine zN 5 ?_;rw [show bP x.kd x.ek=⟨#[115,116,97,114,116]⟩ from by simp [bP,tq,yj,h47,h57]];have EP:=u7.aR [4,3,2,1];rw [show bM x.kd x.ek=some [(1,4)] from by simp [bM,tq,yj,h47,h57]];exact ⟨_,rfl,St.jy (n:=1) (xs:=([(1,4)]:List (Nat×Int)).flatMap (cO g)) 0 EP rfl rfl rfl⟩
  refine zN 7 ?_;by_cases AV:x.kd=8
  ·refine zN 6 ?_;have yZ:=jG.drew;refine aI 9 yZ [] ?_;refine aK 4 ?_;refine ak (v:= .agg #[pV g 4,iV 100000]) 4 rfl yZ (λ_ _=>fQ) ?_;refine dh ?_;refine aU 5 ?_;refine jC (i:=5) rfl rfl (V:=λb=> .slice (aD b 0) 2 2) (row:= #[pV g 1,iV 4,pV g 4,iV 100000]) (t:=164) yZ (wn rfl) rfl rfl (aP (vs:=[(0,.agg #[pV g 1,iV 4]),(1,.agg #[pV g 4,iV 100000])]) rfl ⟨rfl,rfl,rfl,rfl,trivial⟩ (by kernel_rfl)) ?_;intro b75 w76 D8;refine aK 4 ?_;refine zN 5 ?_;rw [show bP x.kd x.ek=⟨#[99,114,97,115,104]⟩ from by simp [bP,tq,yj,h47,h57,AV]];have zX:=D8.aR [4,3,2,1];rw [show bM x.kd x.ek=some [(1,4),(4,100000)] from by simp [bM,tq,yj,h47,h57,AV]];exact ⟨_,rfl,St.jy (n:=2) (xs:=([(1,4),(4,100000)]:List (Nat×Int)).flatMap (cO g)) 0 zX rfl rfl rfl⟩
  refine zN 7 ?_;by_cases F8:x.kd=4
  ·refine zN 6 ?_;have S82:=jG.drew;refine aI 5 S82 [] ?_;refine aK 2 ?_;refine aU 1 ?_;refine EI 1 rfl S82 ?_;intro b85 w86 EU;refine aK 4 ?_;refine zN 5 ?_;rw [show bP x.kd x.ek=⟨#[99,97,114,114,121]⟩ from by simp [bP,tq,yj,h47,h57,AV,F8]];have YF:=EU.aR [4,3,2,1];rw [show bM x.kd x.ek=some [(3,1048576)] from by simp [bM,tq,yj,h47,h57,AV,F8]];exact ⟨_,rfl,St.jy (n:=1) (xs:=([(3,1048576)]:List (Nat×Int)).flatMap (cO g)) 0 YF rfl rfl rfl⟩
  refine zN 7 ?_;by_cases EY:x.kd=5
  ·refine zN 6 ?_;have x9:=jG.drew;refine aI 5 x9 [] ?_;refine aK 2 ?_;refine aU 1 ?_;refine EI 1 rfl x9 ?_;intro b95 w96 Ec;refine aK 4 ?_;refine zN 5 ?_;rw [show bP x.kd x.ek=⟨#[108,111,115,101]⟩ from by simp [bP,tq,yj,h47,h57,AV,F8,EY]];have rz:=Ec.aR [4,3,2,1];rw [show bM x.kd x.ek=some [(3,1048576)] from by simp [bM,tq,yj,h47,h57,AV,F8,EY]];exact ⟨_,rfl,St.jy (n:=1) (xs:=([(3,1048576)]:List (Nat×Int)).flatMap (cO g)) 0 rz rfl rfl rfl⟩
  refine zN 7 ?_;by_cases Ao:x.kd=6
  ·refine zN 6 ?_;have rV:=jG.drew;refine aI 5 rV [] ?_;refine aK 2 ?_;refine aU 1 ?_;refine EI 1 rfl rV ?_;intro azu YS xA;refine aK 4 ?_;refine zN 5 ?_;rw [show bP x.kd x.ek=⟨#[100,111,117,98,108,101]⟩ from by simp [bP,tq,yj,h47,h57,AV,F8,EY,Ao]];have qc:=xA.aR [4,3,2,1];rw [show bM x.kd x.ek=some [(3,1048576)] from by simp [bM,tq,yj,h47,h57,AV,F8,EY,Ao]];exact ⟨_,rfl,St.jy (n:=1) (xs:=([(3,1048576)]:List (Nat×Int)).flatMap (cO g)) 0 qc rfl rfl rfl⟩
  refine zN 7 ?_;by_cases Dy:x.kd=7
  ·refine zN 16 ?_;rw [show bP x.kd x.ek=⟨#[97,108,108]⟩ from by simp [bP,tq,yj,h47,h57,AV,F8,EY,Ao,Dy]];have uS:=jG.aR [3,2,1,0];rw [show bM x.kd x.ek=some [] from by simp [bM,tq,yj,h47,h57,AV,F8,EY,Ao,Dy]];exact ⟨none,rfl,aC uS⟩
  refine zN 7 ?_;by_cases Hl:x.kd=2
  ·refine zN 18 ?_;refine vv (v:=iV x.ek) (au rfl rfl (ay Tryz.underlying3 rfl (Rd.cl (j:=5) (St.rd 3 jG rfl) rfl))) ?_;refine zN 5 ?_;by_cases Fp:x.ek=1
   ·refine zN 6 ?_;have qg:=jG.drew;refine aI 18 qg [] ?_;refine aK 5 ?_;refine ak (v:= .agg #[pV g 6,iV 3]) 5 rfl qg (λ_ _=>fQ) ?_;refine aK 3 ?_;refine ak (v:= .agg #[pV g 7,iV 1073741824]) 9 rfl qg (λ_ _=>fQ) ?_;refine aK 3 ?_;refine ak (v:= .agg #[pV g 8,iV 1000000]) 13 rfl qg (λ_ _=>fQ) ?_;refine dh ?_;refine aU 14 ?_;refine jC (i:=14) rfl rfl (V:=λb=> .slice (aD b 0) 5 5) (row:= #[pV g 1,iV 4,pV g 2,iV 3,pV g 6,iV 3,pV g 7,iV 1073741824,pV g 8,iV 1000000]) (t:=164) qg (wn rfl) rfl rfl (aP (vs:=[(0,.agg #[pV g 1,iV 4]),(1,.agg #[pV g 2,iV 3]),(2,.agg #[pV g 6,iV 3]),(3,.agg #[pV g 7,iV 1073741824]),(4,.agg #[pV g 8,iV 1000000])]) rfl ⟨rfl,rfl,rfl,rfl,rfl,rfl,rfl,rfl,rfl,rfl,trivial⟩ (by kernel_rfl)) ?_;intro azv auQ Ph;refine aK 4 ?_;refine zN 6 ?_;rw [show bP x.kd x.ek=⟨#[112,117,98,108,105,115,104]⟩ from by simp [bP,tq,yj,h47,h57,AV,F8,EY,Ao,Dy,Hl,Fp]];have Db:=Ph.aR [4,3,2,1];rw [show bM x.kd x.ek=some [(1,4),(2,3),(6,3),(7,1073741824),(8,1000000)] from by simp [bM,tq,yj,h47,h57,AV,F8,EY,Ao,Dy,Hl,Fp]];exact ⟨_,rfl,St.jy (n:=5) (xs:=([(1,4),(2,3),(6,3),(7,1073741824),(8,1000000)]:List (Nat×Int)).flatMap (cO g)) 0 Db rfl rfl rfl⟩
   refine zN 7 ?_;by_cases Ul:x.ek=2
   ·refine zN 6 ?_;have Dc:=jG.drew;refine aI 6 Dc [] ?_;refine aK 3 ?_;refine aU 2 ?_;refine jC (i:=2) rfl rfl (V:=λb=> .slice (aD b 0) 2 2) (row:= #[pV g 1,iV 4,pV g 2,iV 3]) (t:=164) Dc (wn rfl) rfl rfl (aP (vs:=[(0,.agg #[pV g 1,iV 4]),(1,.agg #[pV g 2,iV 3])]) rfl ⟨rfl,rfl,rfl,rfl,trivial⟩ (by kernel_rfl)) ?_;intro amG awo Ui;refine aK 4 ?_;refine zN 6 ?_;rw [show bP x.kd x.ek=⟨#[114,101,99,101,105,118,101]⟩ from by simp [bP,tq,yj,h47,h57,AV,F8,EY,Ao,Dy,Hl,Fp,Ul]];have O6:=Ui.aR [4,3,2,1];rw [show bM x.kd x.ek=some [(1,4),(2,3)] from by simp [bM,tq,yj,h47,h57,AV,F8,EY,Ao,Dy,Hl,Fp,Ul]];exact ⟨_,rfl,St.jy (n:=2) (xs:=([(1,4),(2,3)]:List (Nat×Int)).flatMap (cO g)) 0 O6 rfl rfl rfl⟩
   refine zN 7 ?_;by_cases aeH:x.ek=3
   ·refine zN 6 ?_;have yP:=jG.drew;refine aI 16 yP [] ?_;refine aK 6 ?_;refine ak (v:= .agg #[pV g 9,iV 1048576]) 6 rfl yP (λ_ _=>fQ) ?_;refine aK 4 ?_;refine ak (v:= .agg #[pV g 10,iV 1073741824]) 11 rfl yP (λ_ _=>fQ) ?_;refine dh ?_;refine aU 12 ?_;refine jC (i:=12) rfl rfl (V:=λb=> .slice (aD b 0) 4 4) (row:= #[pV g 1,iV 4,pV g 2,iV 3,pV g 9,iV 1048576,pV g 10,iV 1073741824]) (t:=164) yP (wn rfl) rfl rfl (aP (vs:=[(0,.agg #[pV g 1,iV 4]),(1,.agg #[pV g 2,iV 3]),(2,.agg #[pV g 9,iV 1048576]),(3,.agg #[pV g 10,iV 1073741824])]) rfl ⟨rfl,rfl,rfl,rfl,rfl,rfl,rfl,rfl,trivial⟩ (by kernel_rfl)) ?_;intro azw amK xu;refine aK 4 ?_;refine zN 6 ?_;rw [show bP x.kd x.ek=⟨#[97,99,107]⟩ from by simp [bP,tq,yj,h47,h57,AV,F8,EY,Ao,Dy,Hl,Fp,Ul,aeH]];have ajH:=xu.aR [4,3,2,1];rw [show bM x.kd x.ek=some [(1,4),(2,3),(9,1048576),(10,1073741824)] from by simp [bM,tq,yj,h47,h57,AV,F8,EY,Ao,Dy,Hl,Fp,Ul,aeH]];exact ⟨_,rfl,St.jy (n:=4) (xs:=([(1,4),(2,3),(9,1048576),(10,1073741824)]:List (Nat×Int)).flatMap (cO g)) 0 ajH rfl rfl rfl⟩
   refine zN 18 ?_;rw [show bP x.kd x.ek=⟨#[]⟩ from by simp [bP,tq,yj,h47,h57,AV,F8,EY,Ao,Dy,Hl,Fp,Ul,aeH]];rw [show bM x.kd x.ek=none from by simp [bM,tq,yj,h47,h57,AV,F8,EY,Ao,Dy,Hl,Fp,Ul,aeH]];exact ⟨rfl,jG.low⟩
  refine zN 17 ?_;rw [show bP x.kd x.ek=⟨#[]⟩ from by simp [bP,tq,yj,h47,h57,AV,F8,EY,Ao,Dy,Hl]];rw [show bM x.kd x.ek=none from by simp [bM,tq,yj,h47,h57,AV,F8,EY,Ao,Dy,Hl]];exact ⟨rfl,jG.low⟩
 refine kL 9 rfl S1 D5 ?_;intro azx azy aiJ;refine dh ?_;refine aU 8 ?_;refine kL 8 rfl aiJ D5 ?_;intro azz asS YB;refine dh ?_;refine aU 10 ?_;refine sn 10 rfl 0 YB sD ?_;intro azA ZI;refine dh ?_;refine aU 11 ?_;refine sn 11 rfl 1 ZI sD ?_;intro auU TI;refine aK 2 ?_;refine zN 6 ?_;refine vv (v:= .agg #[pV g 3,iV 1048576]) fQ ?_;refine fI TI D5 ?_;intro azB azC Y0;refine sa 0 Y0 sD ?_;intro azD xL;refine zN 8 ?_;refine vv (v:=iV x.kd) (au rfl rfl (ay Tryz.underlying3 rfl (Rd.cl (j:=0) (St.rd 3 xL rfl) rfl))) ?_;refine zN 5 ?_;by_cases ni:x.kd=1
 ·refine zN 6 ?_;have aoi:=xL.drew;refine aI 6 aoi [] ?_;refine aK 3 ?_;refine aU 2 ?_;refine jC (i:=2) rfl rfl (V:=λb=> .slice (aD b 0) 2 2) (row:= #[pV g 2,iV 3,pV g 1,iV 4]) (t:=164) aoi (wn rfl) rfl rfl (aP (vs:=[(0,.agg #[pV g 2,iV 3]),(1,.agg #[pV g 1,iV 4])]) rfl ⟨rfl,rfl,rfl,rfl,trivial⟩ (by kernel_rfl)) ?_;intro azE aug ajr;refine aK 4 ?_;refine zN 5 ?_;rw [show bP x.kd x.ek=⟨#[109,97,107,101]⟩ from by simp [bP,ni]];have Pp:=ajr.aR [4,3,2,1];rw [show bM x.kd x.ek=some [(2,3),(1,4)] from by simp [bM,ni]];exact ⟨_,rfl,St.jy (n:=2) (xs:=([(2,3),(1,4)]:List (Nat×Int)).flatMap (cO g)) 0 Pp rfl rfl rfl⟩
 refine zN 7 ?_;by_cases og:x.kd=10
 ·refine zN 6 ?_;have aoj:=xL.drew;refine aI 6 aoj [] ?_;refine aK 3 ?_;refine aU 2 ?_;refine jC (i:=2) rfl rfl (V:=λb=> .slice (aD b 0) 2 2) (row:= #[pV g 2,iV 3,pV g 1,iV 4]) (t:=164) aoj (wn rfl) rfl rfl (aP (vs:=[(0,.agg #[pV g 2,iV 3]),(1,.agg #[pV g 1,iV 4])]) rfl ⟨rfl,rfl,rfl,rfl,trivial⟩ (by kernel_rfl)) ?_;intro azF azG awp;refine aK 4 ?_;refine zN 5 ?_;rw [show bP x.kd x.ek=⟨#[109,111,118,101]⟩ from by simp [bP,ni,og]];have awq:=awp.aR [4,3,2,1];rw [show bM x.kd x.ek=some [(2,3),(1,4)] from by simp [bM,ni,og]];exact ⟨_,rfl,St.jy (n:=2) (xs:=([(2,3),(1,4)]:List (Nat×Int)).flatMap (cO g)) 0 awq rfl rfl rfl⟩
 refine zN 7 ?_;by_cases pJ:x.kd=3
 ·refine zN 6 ?_;have aeC:=xL.drew;refine aI 5 aeC [] ?_;refine aK 2 ?_;refine aU 1 ?_;refine EI 1 rfl aeC ?_;intro azH azI awr;refine aK 4 ?_;refine zN 5 ?_;rw [show bP x.kd x.ek=⟨#[115,116,101,112]⟩ from by simp [bP,ni,og,pJ]];have awt:=awr.aR [4,3,2,1];rw [show bM x.kd x.ek=some [(1,4)] from by simp [bM,ni,og,pJ]];exact ⟨_,rfl,St.jy (n:=1) (xs:=([(1,4)]:List (Nat×Int)).flatMap (cO g)) 0 awt rfl rfl rfl⟩
 refine zN 7 ?_;by_cases rD:x.kd=9
 ·refine zN 6 ?_;have aok:=xL.drew;refine aI 5 aok [] ?_;refine aK 2 ?_;refine aU 1 ?_;refine EI 1 rfl aok ?_;intro azJ azK awu;refine aK 4 ?_;refine zN 5 ?_;rw [show bP x.kd x.ek=⟨#[115,116,97,114,116]⟩ from by simp [bP,ni,og,pJ,rD]];have ajx:=awu.aR [4,3,2,1];rw [show bM x.kd x.ek=some [(1,4)] from by simp [bM,ni,og,pJ,rD]];exact ⟨_,rfl,St.jy (n:=1) (xs:=([(1,4)]:List (Nat×Int)).flatMap (cO g)) 0 ajx rfl rfl rfl⟩
 refine zN 7 ?_;by_cases tK:x.kd=8
 ·refine zN 6 ?_;have Z6:=xL.drew;refine aI 9 Z6 [] ?_;refine aK 4 ?_;refine ak (v:= .agg #[pV g 4,iV 100000]) 4 rfl Z6 (λ_ _=>fQ) ?_;refine dh ?_;refine aU 5 ?_;refine jC (i:=5) rfl rfl (V:=λb=> .slice (aD b 0) 2 2) (row:= #[pV g 1,iV 4,pV g 4,iV 100000]) (t:=164) Z6 (wn rfl) rfl rfl (aP (vs:=[(0,.agg #[pV g 1,iV 4]),(1,.agg #[pV g 4,iV 100000])]) rfl ⟨rfl,rfl,rfl,rfl,trivial⟩ (by kernel_rfl)) ?_;intro azL azM awv;refine aK 4 ?_;refine zN 5 ?_;rw [show bP x.kd x.ek=⟨#[99,114,97,115,104]⟩ from by simp [bP,ni,og,pJ,rD,tK]];have ajy:=awv.aR [4,3,2,1];rw [show bM x.kd x.ek=some [(1,4),(4,100000)] from by simp [bM,ni,og,pJ,rD,tK]];exact ⟨_,rfl,St.jy (n:=2) (xs:=([(1,4),(4,100000)]:List (Nat×Int)).flatMap (cO g)) 0 ajy rfl rfl rfl⟩
 refine zN 7 ?_;by_cases uY:x.kd=4
 ·refine zN 6 ?_;have aol:=xL.drew;refine aI 5 aol [] ?_;refine aK 2 ?_;refine aU 1 ?_;refine EI 1 rfl aol ?_;intro azN azO aww;refine aK 4 ?_;refine zN 5 ?_;rw [show bP x.kd x.ek=⟨#[99,97,114,114,121]⟩ from by simp [bP,ni,og,pJ,rD,tK,uY]];have awx:=aww.aR [4,3,2,1];rw [show bM x.kd x.ek=some [(3,1048576)] from by simp [bM,ni,og,pJ,rD,tK,uY]];exact ⟨_,rfl,St.jy (n:=1) (xs:=([(3,1048576)]:List (Nat×Int)).flatMap (cO g)) 0 awx rfl rfl rfl⟩
 refine zN 7 ?_;by_cases xM:x.kd=5
 ·refine zN 6 ?_;have aeD:=xL.drew;refine aI 5 aeD [] ?_;refine aK 2 ?_;refine aU 1 ?_;refine EI 1 rfl aeD ?_;intro azP azQ awy;refine aK 4 ?_;refine zN 5 ?_;rw [show bP x.kd x.ek=⟨#[108,111,115,101]⟩ from by simp [bP,ni,og,pJ,rD,tK,uY,xM]];have awz:=awy.aR [4,3,2,1];rw [show bM x.kd x.ek=some [(3,1048576)] from by simp [bM,ni,og,pJ,rD,tK,uY,xM]];exact ⟨_,rfl,St.jy (n:=1) (xs:=([(3,1048576)]:List (Nat×Int)).flatMap (cO g)) 0 awz rfl rfl rfl⟩
 refine zN 7 ?_;by_cases Ap:x.kd=6
 ·refine zN 6 ?_;have aom:=xL.drew;refine aI 5 aom [] ?_;refine aK 2 ?_;refine aU 1 ?_;refine EI 1 rfl aom ?_;intro azR azS awC;refine aK 4 ?_;refine zN 5 ?_;rw [show bP x.kd x.ek=⟨#[100,111,117,98,108,101]⟩ from by simp [bP,ni,og,pJ,rD,tK,uY,xM,Ap]];have awD:=awC.aR [4,3,2,1];rw [show bM x.kd x.ek=some [(3,1048576)] from by simp [bM,ni,og,pJ,rD,tK,uY,xM,Ap]];exact ⟨_,rfl,St.jy (n:=1) (xs:=([(3,1048576)]:List (Nat×Int)).flatMap (cO g)) 0 awD rfl rfl rfl⟩
 refine zN 7 ?_;by_cases Dz:x.kd=7
 ·refine zN 16 ?_;rw [show bP x.kd x.ek=⟨#[97,108,108]⟩ from by simp [bP,ni,og,pJ,rD,tK,uY,xM,Ap,Dz]];have awE:=xL.aR [3,2,1,0];rw [show bM x.kd x.ek=some [] from by simp [bM,ni,og,pJ,rD,tK,uY,xM,Ap,Dz]];exact ⟨none,rfl,aC awE⟩
 refine zN 7 ?_;by_cases Ho:x.kd=2
 ·refine zN 18 ?_;refine vv (v:=iV x.ek) (au rfl rfl (ay Tryz.underlying3 rfl (Rd.cl (j:=5) (St.rd 3 xL rfl) rfl))) ?_;refine zN 5 ?_;by_cases MJ:x.ek=1
  ·refine zN 6 ?_;have aag:=xL.drew;refine aI 18 aag [] ?_;refine aK 5 ?_;refine ak (v:= .agg #[pV g 6,iV 3]) 5 rfl aag (λ_ _=>fQ) ?_;refine aK 3 ?_;refine ak (v:= .agg #[pV g 7,iV 1073741824]) 9 rfl aag (λ_ _=>fQ) ?_;refine aK 3 ?_;refine ak (v:= .agg #[pV g 8,iV 1000000]) 13 rfl aag (λ_ _=>fQ) ?_;refine dh ?_;refine aU 14 ?_;refine jC (i:=14) rfl rfl (V:=λb=> .slice (aD b 0) 5 5) (row:= #[pV g 1,iV 4,pV g 2,iV 3,pV g 6,iV 3,pV g 7,iV 1073741824,pV g 8,iV 1000000]) (t:=164) aag (wn rfl) rfl rfl (aP (vs:=[(0,.agg #[pV g 1,iV 4]),(1,.agg #[pV g 2,iV 3]),(2,.agg #[pV g 6,iV 3]),(3,.agg #[pV g 7,iV 1073741824]),(4,.agg #[pV g 8,iV 1000000])]) rfl ⟨rfl,rfl,rfl,rfl,rfl,rfl,rfl,rfl,rfl,rfl,trivial⟩ (by kernel_rfl)) ?_;intro azT azU awF;refine aK 4 ?_;refine zN 6 ?_;rw [show bP x.kd x.ek=⟨#[112,117,98,108,105,115,104]⟩ from by simp [bP,ni,og,pJ,rD,tK,uY,xM,Ap,Dz,Ho,MJ]];have awG:=awF.aR [4,3,2,1];rw [show bM x.kd x.ek=some [(1,4),(2,3),(6,3),(7,1073741824),(8,1000000)] from by simp [bM,ni,og,pJ,rD,tK,uY,xM,Ap,Dz,Ho,MJ]];exact ⟨_,rfl,St.jy (n:=5) (xs:=([(1,4),(2,3),(6,3),(7,1073741824),(8,1000000)]:List (Nat×Int)).flatMap (cO g)) 0 awG rfl rfl rfl⟩
  refine zN 7 ?_;by_cases Um:x.ek=2
  ·refine zN 6 ?_;have aeE:=xL.drew;refine aI 6 aeE [] ?_;refine aK 3 ?_;refine aU 2 ?_;refine jC (i:=2) rfl rfl (V:=λb=> .slice (aD b 0) 2 2) (row:= #[pV g 1,iV 4,pV g 2,iV 3]) (t:=164) aeE (wn rfl) rfl rfl (aP (vs:=[(0,.agg #[pV g 1,iV 4]),(1,.agg #[pV g 2,iV 3])]) rfl ⟨rfl,rfl,rfl,rfl,trivial⟩ (by kernel_rfl)) ?_;intro azV azW awH;refine aK 4 ?_;refine zN 6 ?_;rw [show bP x.kd x.ek=⟨#[114,101,99,101,105,118,101]⟩ from by simp [bP,ni,og,pJ,rD,tK,uY,xM,Ap,Dz,Ho,MJ,Um]];have awI:=awH.aR [4,3,2,1];rw [show bM x.kd x.ek=some [(1,4),(2,3)] from by simp [bM,ni,og,pJ,rD,tK,uY,xM,Ap,Dz,Ho,MJ,Um]];exact ⟨_,rfl,St.jy (n:=2) (xs:=([(1,4),(2,3)]:List (Nat×Int)).flatMap (cO g)) 0 awI rfl rfl rfl⟩
  refine zN 7 ?_;by_cases aeI:x.ek=3
  ·refine zN 6 ?_;have aeJ:=xL.drew;refine aI 16 aeJ [] ?_;refine aK 6 ?_;refine ak (v:= .agg #[pV g 9,iV 1048576]) 6 rfl aeJ (λ_ _=>fQ) ?_;refine aK 4 ?_;refine ak (v:= .agg #[pV g 10,iV 1073741824]) 11 rfl aeJ (λ_ _=>fQ) ?_;refine dh ?_;refine aU 12 ?_;refine jC (i:=12) rfl rfl (V:=λb=> .slice (aD b 0) 4 4) (row:= #[pV g 1,iV 4,pV g 2,iV 3,pV g 9,iV 1048576,pV g 10,iV 1073741824]) (t:=164) aeJ (wn rfl) rfl rfl (aP (vs:=[(0,.agg #[pV g 1,iV 4]),(1,.agg #[pV g 2,iV 3]),(2,.agg #[pV g 9,iV 1048576]),(3,.agg #[pV g 10,iV 1073741824])]) rfl ⟨rfl,rfl,rfl,rfl,rfl,rfl,rfl,rfl,trivial⟩ (by kernel_rfl)) ?_;intro azX azY awJ;refine aK 4 ?_;refine zN 6 ?_;rw [show bP x.kd x.ek=⟨#[97,99,107]⟩ from by simp [bP,ni,og,pJ,rD,tK,uY,xM,Ap,Dz,Ho,MJ,Um,aeI]];have aeF:=awJ.aR [4,3,2,1];rw [show bM x.kd x.ek=some [(1,4),(2,3),(9,1048576),(10,1073741824)] from by simp [bM,ni,og,pJ,rD,tK,uY,xM,Ap,Dz,Ho,MJ,Um,aeI]];exact ⟨_,rfl,St.jy (n:=4) (xs:=([(1,4),(2,3),(9,1048576),(10,1073741824)]:List (Nat×Int)).flatMap (cO g)) 0 aeF rfl rfl rfl⟩
  refine zN 18 ?_;rw [show bP x.kd x.ek=⟨#[]⟩ from by simp [bP,ni,og,pJ,rD,tK,uY,xM,Ap,Dz,Ho,MJ,Um,aeI]];rw [show bM x.kd x.ek=none from by simp [bM,ni,og,pJ,rD,tK,uY,xM,Ap,Dz,Ho,MJ,Um,aeI]];exact ⟨rfl,xL.low⟩
 refine zN 17 ?_;rw [show bP x.kd x.ek=⟨#[]⟩ from by simp [bP,ni,og,pJ,rD,tK,uY,xM,Ap,Dz,Ho]];rw [show bM x.kd x.ek=none from by simp [bM,ni,og,pJ,rD,tK,uY,xM,Ap,Dz,Ho]];exact ⟨rfl,xL.low⟩
theorem OP (x:Ac) (w:World):
    Calls Tryz.prog 45 #[.agg #[iV x.kd,iV x.nd,iV x.qu,iV x.at_,iV x.kp,iV x.ek,iV x.ep,iV x.ei,iV x.eb,iV x.eh,iV x.en]] w (lQ w (dK x)):=by
 have S:=St.start w;refine fZ 57 Tryz.func45 ?_;refine cw [0] ?_;refine zN 2 ?_;refine iC S ?_;intro b1 w2 S3;refine zN 4 ?_;have HF:=λw h=>VJ b1 x w h
 rcases hf:bM x.kd x.ek with _ | l
 ·rw [hf] at HF;refine zQ ?_;refine dG al5 (HF _ (St.lJ 0 S3 rfl rfl rfl)) ?_;rintro _ w4 ⟨rfl,hb6⟩;refine ⟨_,rfl,?_⟩;have S5:=S3.on hb6;refine zN 25 ?_;rw [Wz hf];exact ⟨rfl,S5.low⟩
 rw [hf] at HF;have hl5:=ab9 hf;refine zQ ?_;refine dG al5 (HF _ (St.lJ 0 S3 rfl rfl rfl)) ?_;rintro _ w8 ⟨A7,rfl,T10⟩;refine ⟨_,rfl,?_⟩;have S9:=S3.ext T10 rfl;refine zN 28 ?_;refine fH (X:=Nat) (λxv=>[(1,pV b1 0),(2,iV 0),(4,.slice A7 l.length l.length),(17,.slice A7 l.length l.length),(18,iV ((l.length:Nat):Int)),(19,iV ((xv:Nat):Int))]) (λxv wr=>(xv<=l.length)/\((l.take xv).all (Lp x)=true)/\St w.heap.size w wr [.bX 2 A7 l.length ((l).flatMap (cO b1)),.blk b1 #[iV x.kd,iV x.nd,iV x.qu,iV x.at_,iV x.kp,iV x.ek,iV x.ep,iV x.ei,iV x.eb,iV x.eh,iV x.en] 77]) (λxv=>l.length-xv) (0) ?_ ?_ ?_
 ·exact ⟨Nat.zero_le _,rfl,S9⟩
 ·exact ⟨rfl,rfl,rfl,rfl,rfl,rfl,trivial⟩
 rintro k HY ⟨aiq,J3,l6⟩
 try dsimp only at aiq J3 l6
 refine bH (l':=[(1,pV b1 0),(2,iV 0),(4,.slice A7 l.length l.length),(17,.slice A7 l.length l.length),(18,iV ((l.length:Nat):Int)),(19,iV ((k:Nat):Int))]) ⟨rfl,rfl,rfl,rfl,rfl,rfl,trivial⟩ (aT (aH ?_));by_cases h15:((k:Nat):Int)< ((l.length:Nat):Int)
 ·refine zN 11 ?_;obtain ⟨b16,o17,rfl⟩:=Rd.addr (St.bX 0 l6 rfl) (by omega);obtain ⟨x18,Dh⟩:=Ku k (St.bX 0 l6 rfl) (by omega);refine vv (ku k) ?_;refine vv (au rfl rfl (aA (cs:=(cO b1) x18) Tryz.underlying164 rfl sD rfl (Rd.wS (St.bX 0 l6 rfl) (λ_ _ h=>bV (enc:=(cO b1)) (sz:=2) (λ_=>rfl) Dh h)))) ?_;refine fI l6 D5 ?_;intro b20 EO iR;refine sa 0 iR sD ?_;intro KC jG;refine zN 2 ?_;have hp:=M9 hf x18 (List.mem_of_getElem? Dh);refine zQ ?_;refine gT jG mixed (by kernel_rfl) ?_;refine zN 3 ?_;refine uv (v:=iV (x.get x18.1)) (λ_ aiC=>(au rfl rfl (ay Tryz.underlying3 rfl (St.cl 2 aiC rfl (Ac.ah4 x hp.2.1))))) ?_;by_cases h29:x.get x18.1<0
  ·refine zN 10 ?_;refine gY λX9 qb=>?_;refine zN 14 ?_;rw [Ip hf (WA Dh (by omega))];exact ⟨rfl,qb.low⟩
  refine zN 5 ?_;refine ug (v:=iV (x.get x18.1)) (λ_ awK=>(au rfl rfl (ay Tryz.underlying3 rfl (St.cl 2 awK rfl (Ac.ah4 x hp.2.1))))) ?_;refine zN 2 ?_;by_cases h43:x18.2<x.get x18.1
  ·refine zN 2 ?_;refine gY λWS yg=>?_;refine zN 14 ?_;rw [Ip hf (WA Dh (by omega))];exact ⟨rfl,yg.low⟩
  refine zN 2 ?_;refine gY λSw uE=>?_;refine zN 6 ?_;refine vv (v:=iV ((k+1:Nat):Int)) jh ?_;refine zN 2 ?_;have oG:=uE.aR [0];refine bQ (k+1) ?_ ⟨rfl,rfl,rfl,rfl,rfl,rfl,trivial⟩ (by first | omega | (dsimp only;omega));exact ⟨(by omega),(ace Dh J3 (by omega)),oG⟩
 refine zN 19 ?_;obtain rfl:k=l.length:=by omega
 have hall:=J3;rw [List.take_length] at hall;refine fH (X:=Nat) (λxv=>[(1,pV b1 0),(2,iV 0),(38,.slice A7 l.length l.length),(39,iV ((l.length:Nat):Int)),(40,iV ((xv:Nat):Int))]) (λxv wr=>(xv<=l.length)/\St w.heap.size w wr [.bX 2 A7 l.length ((l).flatMap (cO b1)),.blk b1 (ou (xY x.ints (l.take xv))) 77]) (λxv=>l.length-xv) (0) ?_ ?_ ?_
 ·exact ⟨Nat.zero_le _,l6⟩
 ·exact ⟨rfl,rfl,rfl,rfl,rfl,trivial⟩
 rintro j w53 ⟨MB,l7⟩
 try dsimp only at MB l7
 refine bH (l':=[(1,pV b1 0),(2,iV 0),(38,.slice A7 l.length l.length),(39,iV ((l.length:Nat):Int)),(40,iV ((j:Nat):Int))]) ⟨rfl,rfl,rfl,rfl,rfl,trivial⟩ (aT (aH ?_));by_cases h56:((j:Nat):Int)< ((l.length:Nat):Int)
 ·refine zN 11 ?_;obtain ⟨b57,o58,rfl⟩:=Rd.addr (St.bX 0 l7 rfl) (by omega);obtain ⟨x59,ajI⟩:=Ku j (St.bX 0 l7 rfl) (by omega);refine vv (ku j) ?_;refine vv (au rfl rfl (aA (cs:=(cO b1) x59) Tryz.underlying164 rfl sD rfl (Rd.wS (St.bX 0 l7 rfl) (λ_ _ h=>bV (enc:=(cO b1)) (sz:=2) (λ_=>rfl) ajI h)))) ?_;refine fI l7 D5 ?_;intro b61 WK u7;refine sa 0 u7 sD ?_;intro W9 EX;refine zN 6 ?_;have hp:=M9 hf x59 (List.mem_of_getElem? ajI);refine Gx (row':=ou (xY x.ints (l.take (j+1)))) 2 EX (wn rfl) rfl rfl rfl rfl rfl rfl mM rfl (by rw [l5 (by rw [wJ];rfl)];omega) (by rw [zT,acf ajI]) ?_;intro Sv sU;refine zN 4 ?_;refine vv (v:=iV ((j+1:Nat):Int)) jh ?_;refine zN 2 ?_;have yZ:=sU.aR [0];refine bQ (j+1) ?_ ⟨rfl,rfl,rfl,rfl,rfl,trivial⟩ (by first | omega | (dsimp only;omega));exact ⟨(by omega),yZ⟩
 refine zN 12 ?_;obtain rfl:j=l.length:=by omega
 rw [List.take_length] at l7;refine zN 2 ?_;refine vv (au rfl rfl (ay Tryz.underlying3 rfl (St.cl 1 l7 rfl (X6 (by rw [PO _ _ (λp hp=>(M9 hf p hp).1)];rfl))))) ?_;by_cases h69:x.kd=2
 ·refine zN 7 ?_;refine Gx (row':=ou ((xY x.ints l).set 5 0)) 1 l7 (wn rfl) rfl rfl rfl rfl rfl rfl mM rfl (by rw [l5 (by simp only [List.length_set,wJ];rfl)];decide) zT ?_;intro Yg rM;refine zN 5 ?_;refine Gx (row':=ou (((xY x.ints l).set 5 0).set 0 0)) 1 rM (wn rfl) rfl rfl rfl rfl rfl rfl mM rfl (by rw [l5 (by simp only [List.length_set,wJ];rfl)];decide) zT ?_;intro w72 sH;refine zN 4 ?_;have hfn:fin x l=((xY x.ints l).set 5 0).set 0 0:=by unfold fin;rw [if_pos h69]
  have hfl:(((xY x.ints l).set 5 0).set 0 0).length=11:=by simp only [List.length_set,wJ];rfl
  have HN:=λw=>abo (a:=((xY x.ints l).set 5 0).set 0 0) (b:=zeros) hfl rfl w;rw [<-hfn] at HN;by_cases hfi:fin x l=zeros
  ·rw [decide_eq_true hfi] at HN;rw [hfn] at HN;refine zQ ?_;refine vv (v:= .agg (ou (((xY x.ints l).set 5 0).set 0 0))) (au rfl rfl (nQ 1 sH rfl Tryz.underlying77 rfl jR (l5 hfl))) ?_;refine zQ ?_;refine vv (v:= .bool false) (aO rfl rfl rfl (Gc (by kernel_rfl) (HN _))) ?_;refine zN 12 ?_;rw [ahB hf hall hfi];exact ⟨rfl,sH.low⟩
  rw [decide_eq_false hfi] at HN;rw [hfn] at HN;refine zQ ?_;refine vv (v:= .agg (ou (((xY x.ints l).set 5 0).set 0 0))) (au rfl rfl (nQ 1 sH rfl Tryz.underlying77 rfl jR (l5 hfl))) ?_;refine zQ ?_;refine vv (v:= .bool true) (aO rfl rfl rfl (Gc (by kernel_rfl) (HN _))) ?_;refine zN 11 ?_;rw [Na hf hall hfi];exact ⟨rfl,sH.low⟩
 refine zN 9 ?_;refine Gx (row':=ou ((xY x.ints l).set 0 0)) 1 l7 (wn rfl) rfl rfl rfl rfl rfl rfl mM rfl (by rw [l5 (by simp only [List.length_set,wJ];rfl)];decide) zT ?_;intro w74 EK;refine zN 4 ?_;have hfn:fin x l=(xY x.ints l).set 0 0:=by unfold fin;rw [if_neg h69]
 have hfl:((xY x.ints l).set 0 0).length=11:=by simp only [List.length_set,wJ];rfl
 have HN:=λw=>abo (a:=(xY x.ints l).set 0 0) (b:=zeros) hfl rfl w;rw [<-hfn] at HN;by_cases hfi:fin x l=zeros
 ·rw [decide_eq_true hfi] at HN;rw [hfn] at HN;refine zQ ?_;refine vv (v:= .agg (ou ((xY x.ints l).set 0 0))) (au rfl rfl (nQ 1 EK rfl Tryz.underlying77 rfl jR (l5 hfl))) ?_;refine zQ ?_;refine vv (v:= .bool false) (aO rfl rfl rfl (Gc (by kernel_rfl) (HN _))) ?_;refine zN 12 ?_;rw [ahB hf hall hfi];exact ⟨rfl,EK.low⟩
 rw [decide_eq_false hfi] at HN;rw [hfn] at HN;refine zQ ?_;refine vv (v:= .agg (ou ((xY x.ints l).set 0 0))) (au rfl rfl (nQ 1 EK rfl Tryz.underlying77 rfl jR (l5 hfl))) ?_;refine zQ ?_;refine vv (v:= .bool true) (aO rfl rfl rfl (Gc (by kernel_rfl) (HN _))) ?_;refine zN 11 ?_;rw [Na hf hall hfi];exact ⟨rfl,EK.low⟩
instance:yB Ac where
 size:=11
 ints x:=x.ints
 of l:=⟨l.getD 0 0,l.getD 1 0,l.getD 2 0,l.getD 3 0,l.getD 4 0,l.getD 5 0,l.getD 6 0,l.getD 7 0,l.getD 8 0,l.getD 9 0,l.getD 10 0⟩
 pos:=by omega
 len _:=rfl
 inv xs h:=by
  obtain ⟨a1,xs,rfl⟩:=List.exists_cons_of_length_eq_add_one h;obtain ⟨a2,xs,rfl⟩:=List.exists_cons_of_length_eq_add_one (Nat.succ.inj h);have h:=Nat.succ.inj (Nat.succ.inj h);obtain ⟨a3,xs,rfl⟩:=List.exists_cons_of_length_eq_add_one h;obtain ⟨a4,xs,rfl⟩:=List.exists_cons_of_length_eq_add_one (Nat.succ.inj h);have h:=Nat.succ.inj (Nat.succ.inj h);obtain ⟨a5,xs,rfl⟩:=List.exists_cons_of_length_eq_add_one h;obtain ⟨a6,xs,rfl⟩:=List.exists_cons_of_length_eq_add_one (Nat.succ.inj h);have h:=Nat.succ.inj (Nat.succ.inj h);obtain ⟨a7,xs,rfl⟩:=List.exists_cons_of_length_eq_add_one h;obtain ⟨a8,xs,rfl⟩:=List.exists_cons_of_length_eq_add_one (Nat.succ.inj h);have h:=Nat.succ.inj (Nat.succ.inj h);obtain ⟨a9,xs,rfl⟩:=List.exists_cons_of_length_eq_add_one h;obtain ⟨a10,xs,rfl⟩:=List.exists_cons_of_length_eq_add_one (Nat.succ.inj h);have h:=Nat.succ.inj (Nat.succ.inj h);obtain ⟨a11,xs,rfl⟩:=List.exists_cons_of_length_eq_add_one h;obtain rfl:=List.eq_nil_of_length_eq_zero (Nat.succ.inj h);rfl
def uL:List Ac->Int
 | []=>0
 | a::l=>if dK a≠0 then dK a else uL l
def Aq (l:List Ac):Int:=if 100000<l.length then 1 else uL l
section
variable {l:List Ac} {k:Nat} {x:Ac}
theorem alT (h:l[k]? =some x) (hf:dK x=0):uL (l.drop k)=uL (l.drop (k+1)):=by rw [drop_cons h,uL,if_neg (λe=>e hf)]
theorem ag4 (h:l[k]? =some x) (hf: ¬ dK x=0):uL (l.drop k)=dK x:=by rw [drop_cons h,uL,if_pos hf]
theorem Nq (h: ¬ 100000<l.length):Aq l=uL l:=if_neg h
theorem adP (h:100000<l.length):Aq l=1:=if_pos h
theorem JH: ∀ {l:List Ac},uL l=0-> ∀ a∈l,dK a=0
 | [],_,a,ha=>by simp at ha
 | x::l,h,a,ha=>by
  rw [uL] at h
  split at h
  ·rename_i hx;exact absurd h hx
  rename_i hx
  rcases List.mem_cons.1 ha with rfl | ha
  ·exact Classical.not_not.1 hx
  exact JH h a ha
theorem ag5 (h:Aq l=0):l.length<=100000/\ ∀ a∈l,dK a=0:=by
 unfold Aq at h
 split at h
 ·cases h
 exact ⟨by omega,JH h⟩
theorem ag6 (h:l[k]? =some x):l.take (k+1)=l.take k++[x]:=by rw [List.take_add_one,h];rfl
theorem adQ {m:Cl} {l:List Ac}:m.run (l++[x])=(m.run l).act x:=by unfold Cl.run;rw [List.foldl_append];rfl
end
def Eu (fl:Nat) (U:Nat->Bool) (d:Dir) (bv sv tv:Value) (calls:Nat):List Value:=
 [iV ((fl:Nat):Int),.bool (U 0),.bool (U 1),.bool (U 2),.bool (U 3),.bool (U 4),iV d.p0.node,iV d.p0.epoch,iV d.p1.node,iV d.p1.epoch,iV d.p2.node,iV d.p2.epoch,iV d.p3.node,iV d.p3.epoch,bv,sv,tv,iV ((calls:Nat):Int)]
def nu (fl:Nat) (U:Nat->Bool) (d:Dir) (bv sv tv:Value) (calls:Nat):Array Value:=(Eu fl U d bv sv tv calls).toArray
def ag7:Array Value:= #[iV 0,.bool false,.bool false,.bool false,.bool false,.bool false,iV 0,iV 0,iV 0,iV 0,iV 0,iV 0,iV 0,iV 0,.slice none 0 0,.slice none 0 0,.slice none 0 0,iV 0]
section
variable {fl calls q k:Nat} {U:Nat->Bool} {d:Dir} {bv sv tv fv nv:Value} {sh:Nat->Nat->Int×Int}
theorem ah5 (h1:bv.oneCell'=true) (h2:sv.oneCell'=true) (h3:tv.oneCell'=true): ∀ u∈(nu fl U d bv sv tv calls).toList,u.oneCell'=true:=by
 intro u hu;simp only [nu,Eu,List.mem_cons,List.not_mem_nil,or_false] at hu
 rcases hu with rfl | rfl | rfl | rfl | rfl | rfl | rfl | rfl | rfl | rfl | rfl | rfl | rfl | rfl | rfl | rfl | rfl | rfl<;>first | rfl | assumption
theorem Un {fl' calls' o:Nat} {U':Nat->Bool} {d':Dir} {bv' sv' tv':Value} {vs:List Value} (h:o+vs.length<=18) (he:(Eu fl U d bv sv tv calls).take o++vs++(Eu fl U d bv sv tv calls).drop (o+vs.length)=Eu fl' U' d' bv' sv' tv' calls'):
  bZ (nu fl U d bv sv tv calls) o vs=nu fl' U' d' bv' sv' tv' calls':=Array.ext' (by rw [gI _ _ _ h];exact he)
theorem awL {fl':Nat}:bZ (nu fl U d bv sv tv calls) 0 [iV ((fl':Nat):Int)]=nu fl' U d bv sv tv calls:=Un (Nat.le_of_ble_eq_true rfl) rfl
theorem awM {d':Dir}:bZ (nu fl U d bv sv tv calls) 6 d'.cells=nu fl U d' bv sv tv calls:=Un (Nat.le_of_ble_eq_true rfl) rfl
theorem ah6 {x:Value}:bZ (nu fl U d bv sv tv calls) 14 [x]=nu fl U d x sv tv calls:=Un (Nat.le_of_ble_eq_true rfl) rfl
theorem aqS (hq:q<5) {v:Bool}:bZ (nu fl U d bv sv tv calls) (1+q*1) [.bool v]=nu fl (upd U q v) d bv sv tv calls:=by
 rcases five hq with rfl | rfl | rfl | rfl | rfl<;>exact Un (Nat.le_of_ble_eq_true rfl) rfl
theorem ag8: ∀ (j:Nat) (u:Value),(nu 0 (λ_=>false) (⟨⟨0,0⟩,⟨0,0⟩,⟨0,0⟩,⟨0,0⟩⟩:Dir) (.slice none 0 0) sv tv calls).toList[j]? =some u->(kG nv d fv sh sv tv calls)[50+j]? =some u:=by
 intro j u h;have hj:j<18:=(List.getElem?_eq_some_iff.1 h).1;have h2:j=0\/j=1\/j=2\/j=3\/j=4\/j=5\/j=6\/j=7\/j=8\/j=9\/j=10\/j=11\/j=12\/j=13\/j=14\/j=15\/j=16\/j=17:=by omega
 rcases h2 with rfl | rfl | rfl | rfl | rfl | rfl | rfl | rfl | rfl | rfl | rfl | rfl | rfl | rfl | rfl | rfl | rfl | rfl<;>exact h
end
def jr (p:Nat×List BX):List Value:=[.slice (aD p.1 0) 4 4]
structure P1 (L:List Fact) (m:Cl) (j:Nat) (p:Nat×List BX):Prop where
 rd:Ro L 6 (aD p.1 0) 4 (p.2.flatMap BX.cells)
 bm:p.2.map BX.b=vB (m.ah j).view
 bo: ∀ y∈p.2,Ad L y
theorem P1.mono {L L':List Fact} {m:Cl} {j:Nat} {p:Nat×List BX} (h:P1 L m j p) (hl: ∀ f∈L,f∈L'):P1 L' m j p:=⟨h.rd.mono hl,h.bm,λy hy=>(h.bo y hy).mono hl⟩
def Uo (L:List Fact) (m:Cl) (row:Array Value):Prop:= ∃ (U:Nat->Bool) (BA:Option Addr) (bc:Nat) (sA:Option Addr) (sc:Nat) (tA:Option Addr) (tc:Nat) (ps:List (Nat×List BX)),row=nu m.fly.length U m.off (.slice BA 5 bc) (.slice sA m.aQ.length sc) (.slice tA m.bE.length tc) m.calls/\(∀ j,j<5->U j=(m.ah j).up)/\ps.length=5/\
 Ro L 1 BA 5 (ps.flatMap jr)/\Ro L 14 sA m.aQ.length (m.aQ.flatMap kF.cells)/\Ro L 7 tA m.bE.length (m.bE.flatMap vo.cells)/\ ∀ j p,ps[j]? =some p->P1 L m j p
section
variable {K:CK} {R:CX} {B n k:Nat} {w0 w:World} {fs gs N E L LC:List Fact} {m:Cl} {H:List LX} {X:Nd} {z:NX} {ps:List (Nat×List BX)} {p:Nat×List BX} {bs:List BX} {bB:Nat} {U:Nat->Bool}
theorem Wd.top (h:Wd K B w0 w fs m H):St B w0 w fs:=by
 obtain ⟨R,_,S⟩:=h;exact S.sub (List.sublist_append_left _ _)
open Classical in
theorem St.shut (hn:n<5) (S:St B w0 w (jM K n (m.ah n) (R.nx n)++(tF K R m++(gs++fK K R m fs n)))):St B w0 w (gs++(fs++kJ K R m)):=by
 refine S.perm (List.perm_iff_count.2 λa=>?_);have h1:=List.perm_iff_count.1 (uf (λj=>jM K j (m.ah j) (R.nx j)) hn) a;unfold fK kJ kR;simp only [List.count_append] at h1⊢;omega
open Classical in
theorem St.ah7 (hn:n<5) (S:St B w0 w (jM K n (m.ah n) (R.nx n)++(tF K R m++(gs++((N++(fs++(kR K R m n++R.L)))++E))))):St B w0 w (gs++((E++N)++(fs++kJ K R m))):=by
 refine S.perm (List.perm_iff_count.2 λa=>?_);have h1:=List.perm_iff_count.1 (uf (λj=>jM K j (m.ah j) (R.nx j)) hn) a;unfold kJ kR;simp only [List.count_append] at h1⊢;omega
open Classical in
theorem St.awN (hn:n<5) (S:St B w0 w (gs++(N++(fs++kJ K R m)))):St B w0 w (jM K n (m.ah n) (R.nx n)++(tF K R m++(gs++(N++(fs++(kR K R m n++R.L)))))):=by
 refine S.perm (List.perm_iff_count.2 λa=>?_);have h1:=List.perm_iff_count.1 (uf (λj=>jM K j (m.ah j) (R.nx j)) hn) a;unfold kJ kR;simp only [List.count_append] at h1⊢;omega
open Classical in
theorem St.aqT (S:St B w0 w (gs++(N++(fs++LC)))):St B w0 w ((gs++(N++LC))++fs):=by
 refine S.perm (List.perm_iff_count.2 λa=>?_);simp only [List.count_append];omega
theorem MK (hl:ps.length=k) (h: ∀ j p,ps[j]? =some p->P1 L m j p) (hn:P1 L m k p): ∀ j q,(ps++[p])[j]? =some q->P1 L m j q:=λj q hq=>by
 by_cases e:j<ps.length
 ·rw [List.getElem?_append_left e] at hq;exact h j q hq
 rw [List.getElem?_append_right (by omega)] at hq;have:j-ps.length=0:=by
  have:=(List.getElem?_eq_some_iff.1 hq).1;rw [List.length_singleton] at this;omega
 rw [this] at hq
 cases hq;rw [show j=k by omega];exact hn
theorem alU (hk:k<5) (hz:R.nx k=z):Fact.own 42 6 (.slice (aD z.bb 0) 4 4) 4 (z.bx.flatMap BX.cells)∈kJ K R m:=by
 subst hz;refine List.mem_append_right _ (List.mem_append_left _ (List.mem_flatMap.2 ⟨k,List.mem_range.2 hk,?_⟩));exact List.mem_cons_of_mem _ (List.mem_cons_self ..)
theorem ag9 (h:dI K R.L k (m.ah k) (R.nx k)) (hX:m.ah k=X) (hz:R.nx k=z) (hu:X.up=true) (hk:k<5):P1 (N++kJ K R m) m k (z.bb,z.bx):=by
 have ho:=alU (K:=K) (m:=m) hk hz;subst hX;subst hz;refine ⟨Ro.own (List.mem_append_right _ ho),?_,λy hy=>(h.Qs y hy).mono λf hf=>List.mem_append_right _ (List.mem_append_right _ (List.mem_append_right _ hf))⟩;rw [gH hu];exact h.OB
theorem aha (hm:bs.map BX.b=vB (bq X.data X.syn)) (hc: ∀ y∈bs,y.b.evs.length<=y.c) (hX:m.ah k=X) (hu:X.up=false):P1 ((Fact.own 42 6 (.slice (aD bB 0) 4 4) 4 (bs.flatMap BX.cells)::(eG bs++N))++LC) m k (bB,bs):=by
 subst hX;refine ⟨Ro.own (List.mem_append_left _ (List.mem_cons_self ..)),?_,λy hy=>(MG hc y hy).mono λf hf=>List.mem_append_left _ (List.mem_cons_of_mem _ (List.mem_append_left _ hf))⟩;unfold Nd.view;rw [if_neg (by rw [hu];simp)];exact hm
theorem QJ (h: ∀ j,j<k->U j=(m.ah j).up) (hX:m.ah k=X): ∀ j,j<k+1->upd U k X.up j=(m.ah j).up:=λj hj=>by
 by_cases e:j=k
 ·rw [e,upd_same,hX]
 rw [upd_ne e];exact h j (by omega)
theorem ahb {OA:Option Addr} {oc:Nat} (G:Good K R m H) (hl:ps.length=5) (hU: ∀ j,j<5->U j=(m.ah j).up) (hL:Fact.own 43 1 (.slice OA ps.length oc) ps.length (ps.flatMap jr)∈L) (hC: ∀ f∈kJ K R m,f∈L) (hp: ∀ j p,ps[j]? =some p->P1 L m j p):
  Uo L m (nu R.fx.length U m.off (.slice OA ps.length oc) (.slice R.sA m.aQ.length R.sc) (.slice R.tA m.bE.length R.tc) m.calls):=by
 rw [hl] at hL⊢;have hf:R.fx.length=m.fly.length:=by rw [<-G.fly,List.length_map]
 have h1:Fact.own 85 14 (.slice R.sA m.aQ.length R.sc) m.aQ.length (m.aQ.flatMap kF.cells)∈kJ K R m:=List.mem_append_left _ (List.mem_cons_of_mem _ (List.mem_cons_of_mem _ (List.mem_cons_self ..)));have h2:Fact.own 81 7 (.slice R.tA m.bE.length R.tc) m.bE.length (m.bE.flatMap vo.cells)∈kJ K R m:=List.mem_append_left _ (List.mem_cons_of_mem _ (List.mem_cons_of_mem _ (List.mem_cons_of_mem _ (List.mem_cons_self ..))));exact ⟨U,OA,oc,R.sA,R.sc,R.tA,R.tc,ps,by rw [hf],hU,hl,Ro.own hL,Ro.own (hC _ h1),Ro.own (hC _ h2),hp⟩
end
theorem aah {B:Nat} {w0 w:World} {fs:List Fact} {A:Option Addr} {c:Nat} {l:List Ac} (S:St B w0 w fs) (hu:Uk B w0) (zL:Ro fs 11 A l.length (l.flatMap Ac.cells)) (hb:l.length*88<=reachBytes):
    Calls Tryz.prog 31 #[.slice A l.length c] w (λe w'=>(Aq l≠0->e= .returned (.tuple #[.agg ag7,iV (Aq l)])/\St B w0 w' fs)/\(Aq l=0-> ∃ row L,e= .returned (.tuple #[.agg row,iV 0])/\Uo L (qm.run l) row/\St B w0 w' (L++fs))):=by
 have hb2:=hb;unfold reachBytes at hb2;refine fZ 99 Tryz.func31 ?_;refine cw [0] ?_;refine zN 2 ?_;refine fI S XY ?_;intro b1 w2 S3;refine zN 8 ?_;by_cases h4:100000< ((l.length:Nat):Int)
 ·refine zN 7 ?_;refine sa 0 S3 xV ?_;intro w5 S6;refine zN 6 ?_;have S7:=S6.aR [0];have hsf:Aq l=1:=adP (by omega);refine ⟨λ_=>⟨by rw [hsf];rfl,S7⟩,λh=>?_⟩;rw [hsf] at h;exact absurd h (by first | decide | assumption)
 refine zN 15 ?_;refine fH (X:=Nat) (λxv=>[(0,.slice A l.length c),(2,pV b1 0),(3,iV 0),(18,.slice A l.length c),(19,iV ((l.length:Nat):Int)),(20,iV ((xv:Nat):Int))]) (λxv wr=>(xv<=l.length)/\(uL l=uL (l.drop xv))/\St B w0 wr ((.blk b1 #[iV 0,.bool false,.bool false,.bool false,.bool false,.bool false,iV 0,iV 0,iV 0,iV 0,iV 0,iV 0,iV 0,iV 0,.slice none 0 0,.slice none 0 0,.slice none 0 0,iV 0] 38)::fs)) (λxv=>l.length-xv) (0) ?_ ?_ ?_
 ·exact ⟨Nat.zero_le _,rfl,S3⟩
 ·exact ⟨rfl,rfl,rfl,rfl,rfl,rfl,trivial⟩
 rintro k1 w8 ⟨mP,Pg,S9⟩
 try dsimp only at mP Pg S9
 refine bH (l':=[(0,.slice A l.length c),(2,pV b1 0),(3,iV 0),(18,.slice A l.length c),(19,iV ((l.length:Nat):Int)),(20,iV ((k1:Nat):Int))]) ⟨rfl,rfl,rfl,rfl,rfl,rfl,trivial⟩ (aT (aH ?_));by_cases h12:((k1:Nat):Int)< ((l.length:Nat):Int)
 ·refine zN 10 ?_;obtain ⟨x,hx⟩: ∃ x,l[k1]? =some x:=⟨_,List.getElem?_eq_getElem (by omega)⟩;obtain ⟨ab_,ao_,hAb⟩:=CO zL S9 (memT 1 rfl dJ) (by omega);refine zQ ?_;refine vv (v:=pV ab_ (ao_+k1*11)) (bD rfl rfl rfl (jV k1 hAb Tryz.underlying26 jR (by omega) (by omega))) ?_;refine vv (v:= .agg #[iV x.kd,iV x.nd,iV x.qu,iV x.at_,iV x.kp,iV x.ek,iV x.ep,iV x.ei,iV x.eb,iV x.eh,iV x.en]) (au rfl rfl (aA (cs:=Ac.cells x) Tryz.underlying77 rfl jR rfl (λj u hu=>by rw [Nat.add_assoc];exact wR zL hAb S9 (memT 1 rfl dJ) (bV (enc:=Ac.cells) (sz:=11) (k:=k1) (λ_=>rfl) hx hu)))) ?_;refine fI S9 ad9 ?_;intro b13 KE iw;refine sa 0 iw jR ?_;intro w16 lG;refine zN 5 ?_;refine cab aq8 lG (OP x _) ?_;intro Kv kT;refine zN 6 ?_;by_cases h21:dK x=0
  ·refine zN 8 ?_;refine vv (v:=iV ((k1+1:Nat):Int)) jh ?_;refine zN 2 ?_;have iR:=kT.aR [0];refine bQ (k1+1) ?_ ⟨rfl,rfl,rfl,rfl,rfl,rfl,trivial⟩ (by first | omega | (dsimp only;omega));exact ⟨(by omega),(by rw [Pg];exact alT hx h21),iR⟩
  refine zN 8 ?_;refine sa 1 kT xV ?_;intro KC jG;refine zN 10 ?_;have jg:=jG.aR [1,0];have hsf:Aq l=dK x:=by rw [Nq (by omega),Pg];exact ag4 hx h21
  refine ⟨λ_=>⟨by rw [hsf];rfl,jg⟩,λh=>?_⟩;rw [hsf] at h;exact absurd h (by first | decide | assumption)
 refine zN 12 ?_;have aon:Aq l=0:=by rw [Nq (by omega),Pg,List.drop_eq_nil_of_le (by omega)];rfl
 obtain ⟨axx,hall⟩:=ag5 aon;refine dG aq9 (RX S9 hu) ?_;rintro _ LA ⟨K,rfl,awO⟩;refine ⟨_,rfl,?_⟩;have aaY:Wd K B w0 LA ((.blk b1 #[iV 0,.bool false,.bool false,.bool false,.bool false,.bool false,iV 0,iV 0,iV 0,iV 0,iV 0,iV 0,iV 0,iV 0,.slice none 0 0,.slice none 0 0,.slice none 0 0,iV 0] 38)::fs) qm []:=awO;have qO:=Wd.top aaY;obtain ⟨kw,bU⟩: ∃ b,K.wb=b:=⟨_,rfl⟩;obtain ⟨n,hn0⟩: ∃ n,n=0:=⟨_,rfl⟩;have hn:n<5:=by omega
 obtain ⟨kn,hkn⟩: ∃ b,K.nb n=b:=⟨_,rfl⟩;rw [bU];refine zN 12 ?_;refine fH (X:=Nat×Cl) (λxv=>[(2,pV b1 0),(3,iV 0),(7,pV kw 0),(32,.slice A l.length c),(33,iV ((l.length:Nat):Int)),(34,iV ((xv.1:Nat):Int))]) (λxv wr=>(Wd K B w0 wr ((.blk b1 #[iV 0,.bool false,.bool false,.bool false,.bool false,.bool false,iV 0,iV 0,iV 0,iV 0,iV 0,iV 0,iV 0,iV 0,.slice none 0 0,.slice none 0 0,.slice none 0 0,iV 0] 38)::fs) xv.2 [])/\(xv.2=qm.run (l.take xv.1))/\(Bs xv.2 xv.1)/\(ShN xv.2)/\(xv.1<=l.length)/\St B w0 wr ((.blk b1 #[iV 0,.bool false,.bool false,.bool false,.bool false,.bool false,iV 0,iV 0,iV 0,iV 0,iV 0,iV 0,iV 0,iV 0,.slice none 0 0,.slice none 0 0,.slice none 0 0,iV 0] 38)::fs)) (λxv=>l.length-xv.1) (0,qm) ?_ ?_ ?_
 ·exact ⟨aaY,rfl,anf,λ_ _=>Int.le_refl _,Nat.zero_le _,Wd.top aaY⟩
 ·exact ⟨rfl,rfl,rfl,rfl,rfl,rfl,trivial⟩
 rintro ⟨k2,mm⟩ w29 ⟨ajJ,GJ,vY,Pq,ajt,zV⟩
 try dsimp only at ajJ GJ vY Pq ajt zV
 refine bH (l':=[(2,pV b1 0),(3,iV 0),(7,pV kw 0),(32,.slice A l.length c),(33,iV ((l.length:Nat):Int)),(34,iV ((k2:Nat):Int))]) ⟨rfl,rfl,rfl,rfl,rfl,rfl,trivial⟩ ?_;obtain ⟨R3,G3,SS⟩:=ajJ.open hn;have QH:=G3.kV n hn;obtain ⟨X3,Al⟩: ∃ X,mm.ah n=X:=⟨_,rfl⟩;obtain ⟨z3,hz3⟩: ∃ z,R3.nx n=z:=⟨_,rfl⟩;rw [Al,hz3] at SS QH;obtain ⟨Xk,Hg⟩: ∃ r,fK K R3 mm fs n=r:=⟨_,rfl⟩;have aoo: ∀ f∈fs,f∈Xk:=λf hf=>Hg▸List.mem_append_left _ hf;have nJ:St B w0 w29 (cN kn n X3 z3 z3.pv (cF kw R3 mm ((.blk b1 #[iV 0,.bool false,.bool false,.bool false,.bool false,.bool false,iV 0,iV 0,iV 0,iV 0,iV 0,iV 0,iV 0,iV 0,.slice none 0 0,.slice none 0 0,.slice none 0 0,iV 0] 38)::Xk))):=by rw [<-Hg];subst hkn;subst bU;exact SS
 clear SS;refine zN 2 ?_;by_cases h37:((k2:Nat):Int)< ((l.length:Nat):Int)
 ·refine zN 10 ?_;obtain ⟨x,hx⟩: ∃ x,l[k2]? =some x:=⟨_,List.getElem?_eq_getElem (by omega)⟩;obtain ⟨ab_,ao_,hAb⟩:=CO zL nJ (memT 8 rfl aoo) (by omega);have hxa:=ahJ (hall x (List.mem_of_getElem? hx));refine zQ ?_;refine vv (v:=pV ab_ (ao_+k2*11)) (bD rfl rfl rfl (jV k2 hAb Tryz.underlying26 jR (by omega) (by omega))) ?_;refine vv (v:= .agg #[iV x.kd,iV x.nd,iV x.qu,iV x.at_,iV x.kp,iV x.ek,iV x.ep,iV x.ei,iV x.eb,iV x.eh,iV x.en]) (au rfl rfl (aA (cs:=Ac.cells x) Tryz.underlying77 rfl jR rfl (λj u hu=>by rw [Nat.add_assoc];exact wR zL hAb nJ (memT 8 rfl aoo) (bV (enc:=Ac.cells) (sz:=11) (k:=k2) (λ_=>rfl) hx hu)))) ?_;refine fI nJ ad9 ?_;intro b38 w39 vk;refine sa 0 vk jR ?_;intro w41 wh;refine zN 5 ?_;have sG:=wh.aR [0];have awP:=Wd.dF (m:=mm) (m':=mm) (H:=[]) (H':=[]) (fs:=(.blk b1 #[iV 0,.bool false,.bool false,.bool false,.bool false,.bool false,iV 0,iV 0,iV 0,iV 0,iV 0,iV 0,iV 0,iV 0,.slice none 0 0,.slice none 0 0,.slice none 0 0,iV 0] 38)::fs) (X':=X3) (z':=z3) (Ls:=[]) (fA:=R3.fA) (fc:=R3.fc) (fx:=R3.fx) (sA:=R3.sA) (sc:=R3.sc) (tA:=R3.tA) (tc:=R3.tc) (rr:=(.blk b1 #[iV 0,.bool false,.bool false,.bool false,.bool false,.bool false,iV 0,iV 0,iV 0,iV 0,iV 0,iV 0,iV 0,iV 0,.slice none 0 0,.slice none 0 0,.slice none 0 0,iV 0] 38)::Xk) hkn bU (by rw [<-Hg];rfl) G3 hn sG QH.more (λu hu=> .inl hu) (aG Al).symm G3.fly.symm mI;refine dG ara (adN (n:=x.nd.toNat) (q:=x.qu.toNat) (by have:=hxa.nd;omega) (by have:=hxa.qu;omega) (by have:=hxa.nd;omega) (by have:=hxa.qu;omega) rfl bU hu awP vY (by omega) hxa Pq) ?_;rintro _ WS ⟨rfl,ajK⟩;refine ⟨_,rfl,?_⟩;have yg:=Wd.top ajK;refine zN 4 ?_;refine vv (v:=iV ((k2+1:Nat):Int)) jh ?_;refine zN 2 ?_;refine bQ (k2+1,mm.act x) ?_ ⟨rfl,rfl,rfl,rfl,rfl,rfl,trivial⟩ (by first | omega | (dsimp only;omega));exact ⟨ajK,(by dsimp only;rw [ag6 hx,adQ,<-GJ]),(by dsimp only;exact Ml vY hxa (by omega)),(by dsimp only;exact ShN.act Pq),(by dsimp only;omega),(Wd.top ajK)⟩
 refine zN 11 ?_;have hmm:mm=qm.run l:=by rw [GJ,List.take_of_length_le (by omega)]
 have pR:=vY;obtain ⟨R,G,S0⟩:=ajJ.open hn;have NG:=G.kV n hn;obtain ⟨X,hX⟩: ∃ X,mm.ah n=X:=⟨_,rfl⟩;obtain ⟨z,hz⟩: ∃ z,R.nx n=z:=⟨_,rfl⟩;rw [hX,hz] at S0 NG;obtain ⟨rr,hrr⟩: ∃ r,fK K R mm fs n=r:=⟨_,rfl⟩;have hfr: ∀ f∈fs,f∈rr:=λf hf=>hrr▸List.mem_append_left _ hf;have u6:St B w0 w29 (cN kn n X z z.pv (cF kw R mm ((.blk b1 #[iV 0,.bool false,.bool false,.bool false,.bool false,.bool false,iV 0,iV 0,iV 0,iV 0,iV 0,iV 0,iV 0,iV 0,.slice none 0 0,.slice none 0 0,.slice none 0 0,iV 0] 38)::rr))):=by rw [<-hrr];subst hkn;subst bU;exact S0
 clear S0;have hcl:=pR.calls;have hfl:R.fx.length=mm.fly.length:=by rw [<-G.fly,List.length_map]
 refine zN 4 ?_;refine vv (v:= .agg (nu 0 (λ_=>false) (⟨⟨0,0⟩,⟨0,0⟩,⟨0,0⟩,⟨0,0⟩⟩:Dir) (.slice none 0 0) (.slice R.sA mm.aQ.length R.sc) (.slice R.tA mm.bE.length R.tc) mm.calls)) (au rfl rfl (aA (cs:=(nu 0 (λ_=>false) (⟨⟨0,0⟩,⟨0,0⟩,⟨0,0⟩,⟨0,0⟩⟩:Dir) (.slice none 0 0) (.slice R.sA mm.aQ.length R.sc) (.slice R.tA mm.bE.length R.tc) mm.calls).toList) Tryz.underlying38 rfl xV rfl (St.rg 3 u6 rfl ag8))) ?_;refine fI u6 XY ?_;intro KH Sw uE;refine stA 0 uE xV ?_ (h1:=by exact ah5 (fl:=0) (U:=(λ_=>false)) (d:=(⟨⟨0,0⟩,⟨0,0⟩,⟨0,0⟩,⟨0,0⟩⟩:Dir)) (bv:= .slice none 0 0) (sv:= .slice R.sA mm.aQ.length R.sc) (tv:= .slice R.tA mm.bE.length R.tc) (calls:=mm.calls) rfl rfl rfl);intro w52 xZ;refine zN 2 ?_;have l7:=xZ.dO [4,1];refine zQ ?_;have uN:=l7.drew;refine aI 13 uN [0] ?_;refine aK 3 ?_;refine ak (v:= .slice R.fA R.fx.length R.fc) 3 rfl (St.del 0 uN) (λ_ Yf=>(au rfl rfl (ay Tryz.underlying115 rfl (St.cl 0 Yf rfl Pk)))) ?_;refine aK 4 ?_;refine ak (v:= .agg ((mm.off.cells).toArray)) 8 rfl (St.del 0 uN) (λ_ Ya=>(au rfl rfl (aA (cs:=(mm.off.cells)) Tryz.underlying33 rfl om rfl (St.rg 0 Ya rfl (wz))))) ?_;refine dh ?_;refine aU 10 ?_;refine snz 10 rfl 0 uN mM ?_ (hs:=by exact awL);intro Sv sU;refine aK 2 ?_;refine aU 12 ?_;refine snz 12 rfl 0 sU om ?_ (h1:=uI _) (hs:=by exact awM);intro w69 tY;refine aK 2 ?_;refine zN 3 ?_;obtain ⟨ab,ao,pQ⟩:=Aj G.arr tY (memT 9 rfl λf hf=>hrr▸List.mem_append_right _ (List.mem_append_right _ hf));refine zN 4 ?_;refine vv (v:= .slice R.nA 5 R.nc) (au rfl rfl (ay Tryz.underlying114 rfl (St.cl 1 tY rfl yS))) ?_;refine zN 5 ?_;have rM:=tY.dO [7,7,7,4,7,7,7];have D7:=St.shut (gs:=[.blk KH (nu R.fx.length (λ_=>false) mm.off (.slice none 0 0) (.slice R.sA mm.aQ.length R.sc) (.slice R.tA mm.bE.length R.tc) mm.calls) 38,.blk b1 #[iV 0,.bool false,.bool false,.bool false,.bool false,.bool false,iV 0,iV 0,iV 0,iV 0,iV 0,iV 0,iV 0,iV 0,.slice none 0 0,.slice none 0 0,.slice none 0 0,iV 0] 38]) hn (by subst hkn;subst bU;rw [hX,hz,show fK K R mm fs n=rr from hrr];exact rM);have sH:=D7.nil 43 1;obtain ⟨LC,hLC⟩: ∃ f,f=kJ K R mm:=⟨_,rfl⟩;obtain ⟨LF,hLF⟩: ∃ f,f=fs++LC:=⟨_,rfl⟩;rw [<-hLC,<-hLF] at sH;refine fH (X:=Nat×(Nat->Bool)×(List (Nat×List BX))×(Option Addr)×Nat×(List Fact)) (λxv=>[(2,pV b1 0),(3,iV 0),(10,pV KH 0),(60,.slice R.nA 5 R.nc),(61,iV 5),(62,iV ((xv.1:Nat):Int))]) (λxv wr=>(xv.1<=5)/\(xv.2.2.1.length=xv.1)/\(∀ j p,xv.2.2.1[j]? =some p->P1 (xv.2.2.2.2.2++LC) mm j p)/\(∀ j,j<xv.1->xv.2.1 j=(mm.ah j).up)/\St B w0 wr ((.own 43 1 (.slice xv.2.2.2.1 xv.2.2.1.length xv.2.2.2.2.1) xv.2.2.1.length ((xv.2.2.1).flatMap jr))::(.blk KH (nu R.fx.length xv.2.1 mm.off (.slice xv.2.2.2.1 xv.2.2.1.length xv.2.2.2.2.1) (.slice R.sA mm.aQ.length R.sc) (.slice R.tA mm.bE.length R.tc) mm.calls) 38)::(.blk b1 #[iV 0,.bool false,.bool false,.bool false,.bool false,.bool false,iV 0,iV 0,iV 0,iV 0,iV 0,iV 0,iV 0,iV 0,.slice none 0 0,.slice none 0 0,.slice none 0 0,iV 0] 38)::(xv.2.2.2.2.2++LF))) (λxv=>5-xv.1) (0,(λ_=>false),[],none,0,[]) ?_ ?_ ?_
 ·exact ⟨Nat.zero_le _,rfl,(λj p hp=>by simp at hp),(λj hj=>absurd hj (Nat.not_lt_zero _)),sH⟩
 ·exact ⟨rfl,rfl,rfl,rfl,rfl,rfl,trivial⟩
 rintro ⟨k,U9,ps,OA,oc,N9⟩ w74 ⟨aop,aai,aeK,aeL,EK⟩
 try dsimp only at aop aai aeK aeL EK
 refine bH (l':=[(2,pV b1 0),(3,iV 0),(10,pV KH 0),(60,.slice R.nA 5 R.nc),(61,iV 5),(62,iV ((k:Nat):Int))]) ⟨rfl,rfl,rfl,rfl,rfl,rfl,trivial⟩ ?_;have hk5:k<=5:=aop;refine zN 2 ?_;by_cases h80:((k:Nat):Int)<5
 ·refine zN 10 ?_;have hk4:k<5:=by omega
  have S9:=St.awN (n:=k) (gs:=[.own 43 1 (.slice OA ps.length oc) ps.length ((ps).flatMap jr),.blk KH (nu R.fx.length U9 mm.off (.slice OA ps.length oc) (.slice R.sA mm.aQ.length R.sc) (.slice R.tA mm.bE.length R.tc) mm.calls) 38,.blk b1 #[iV 0,.bool false,.bool false,.bool false,.bool false,.bool false,iV 0,iV 0,iV 0,iV 0,iV 0,iV 0,iV 0,iV 0,.slice none 0 0,.slice none 0 0,.slice none 0 0,iV 0] 38]) (N:=N9) (fs:=fs) hk4 (by rw [<-hLC,<-hLF];exact EK);obtain ⟨X3,Al⟩: ∃ X,mm.ah k=X:=⟨_,rfl⟩;obtain ⟨z3,hz3⟩: ∃ z,R.nx k=z:=⟨_,rfl⟩;obtain ⟨knk,aeM⟩: ∃ b,K.nb k=b:=⟨_,rfl⟩;obtain ⟨rk,Lb⟩: ∃ r,fs++(kR K R mm k++R.L)=r:=⟨_,rfl⟩;have QH:=G.kV k hk4;rw [Al,hz3] at S9 QH;rw [Lb] at S9;have hLk: ∀ f∈R.L,f∈rk:=λf hf=>Lb▸List.mem_append_right _ (List.mem_append_right _ hf);have tV:St B w0 w74 (cN knk k X3 z3 z3.pv (cF kw R mm ((.own 43 1 (.slice OA ps.length oc) ps.length ((ps).flatMap jr))::(.blk KH (nu R.fx.length U9 mm.off (.slice OA ps.length oc) (.slice R.sA mm.aQ.length R.sc) (.slice R.tA mm.bE.length R.tc) mm.calls) 38)::(.blk b1 #[iV 0,.bool false,.bool false,.bool false,.bool false,.bool false,iV 0,iV 0,iV 0,iV 0,iV 0,iV 0,iV 0,iV 0,.slice none 0 0,.slice none 0 0,.slice none 0 0,iV 0] 38)::(N9++rk)))):=by subst aeM;subst bU;exact S9
  clear S9;refine zN 2 ?_;refine vv (v:=pV ab (ao+k*1)) (bD rfl rfl rfl (jV k pQ Tryz.underlying114 abf (by omega) (by omega))) ?_;refine vv (v:=pV knk 0) (au rfl rfl (ay Tryz.underlying122 rfl (aeM▸uJ (pQ▸G.arr) hk4 tV (memT 10 rfl λf hf=>List.mem_append_right _ (hLk f hf))))) ?_;refine zN 12 ?_;refine vv (v:=pV KH (1+k*1)) (bD rfl rfl rfl (eU k Tryz.underlying28 Gs rfl hk4)) ?_;refine DU (cs:= #[.bool X3.up]) (row':=nu R.fx.length (upd U9 k X3.up) mm.off (.slice OA ps.length oc) (.slice R.sA mm.aQ.length R.sc) (.slice R.tA mm.bE.length R.tc) mm.calls) (fs':=(_::_::_::_::_::_::_::_::(.blk KH (nu R.fx.length (upd U9 k X3.up) mm.off (.slice OA ps.length oc) (.slice R.sA mm.aQ.length R.sc) (.slice R.tA mm.bE.length R.tc) mm.calls) 38)::_::(N9++rk))) 8 tV (wn rfl) rfl rfl rfl rfl rfl rfl Gs rfl (bT rfl) (by show 1+k*1+1<=18;omega) (aqS hk4 (v:=X3.up)) rfl ?_;intro w82 zU;refine zN 13 ?_
  rcases hup:X3.up with _ | _
  ·refine zN 4 ?_;refine vv (v:= .bool false) (MC hup (au rfl rfl (ay Tryz.underlying4 rfl (St.cl 0 zU rfl rfl)))) ?_;refine zN 8 ?_;refine vv (au rfl rfl (aA (cs:=[.slice z3.tA X3.data.length z3.tc,iV X3.syn]) Tryz.underlying125 rfl eH rfl (St.rg 0 zU rfl (qV)))) ?_;have hrd:=(pR.kV k hk4).OO;rw [Al] at hrd;refine dG al3 (F7 z3.tA z3.tc X3.data X3.syn _ (QH.wD.rd zU (memT 10 rfl λf hf=>List.mem_append_right _ (hLk f hf))) hrd.1 hrd.2.2.1) ?_;rintro _ w87 ⟨A84,c85,bB,bs,hbm,hbl,hbc,rfl,T86⟩;refine ⟨_,rfl,?_⟩;have KD:=zU.ext T86 (by simp [IW,Fact.F9]);have Kw:St B w0 w87 ((oB bB bs)::(.bX 1 A84 ((jo X3.data X3.syn).1.length) (byteCells ((jo X3.data X3.syn).1)))::(cN knk k X3 z3 z3.pv (cF kw R mm ((.own 43 1 (.slice OA ps.length oc) ps.length ((ps).flatMap jr))::(.blk KH (nu R.fx.length (upd U9 k X3.up) mm.off (.slice OA ps.length oc) (.slice R.sA mm.aQ.length R.sc) (.slice R.tA mm.bE.length R.tc) mm.calls) 38)::(.blk b1 #[iV 0,.bool false,.bool false,.bool false,.bool false,.bool false,iV 0,iV 0,iV 0,iV 0,iV 0,iV 0,iV 0,iV 0,.slice none 0 0,.slice none 0 0,.slice none 0 0,iV 0] 38)::((N9++rk)++eG bs))))):=St.perm KD (List.Perm.cons _ (List.Perm.cons _ (List.perm_append_comm (l₁:=eG bs))));clear zU;refine zN 10 ?_;refine bsI Kw ?_;intro b90 w91 x9;refine dU (news:=[.slice (aD bB 0) 4 4]) (xs':=((ps++[(bB,bs)])).flatMap jr) 10 x9 (wn rfl) rfl rfl rfl rfl rfl rfl (St.lJ (xs:=[.slice (aD bB 0) 4 4]) 0 x9 rfl rfl rfl) Tryz.underlying34 abd rfl (by decide) (bT rfl) (by simp only [maxLen];omega) (by omega) (jE (enc:=jr) rfl rfl) ?_;intro A93 c94 w95 azZ az0 Cv;refine zQ ?_;refine je 11 Cv aaD ?_ (hs:=by exact ah6);intro w99 rz;refine zN 4 ?_;refine vv (v:=iV ((k+1:Nat):Int)) jh ?_;refine zN 2 ?_;have uT:=rz.aR [2,0];have rV:=uT.dO [0,10,10,10,10,10,10,10,10,10,10];have qh:St B w0 w99 ((.own 43 1 (.slice A93 (ps.length+1) c94) (ps.length+1) (((ps++[(bB,bs)])).flatMap jr))::(.blk KH (nu R.fx.length (upd U9 k X3.up) mm.off (.slice A93 (ps.length+1) c94) (.slice R.sA mm.aQ.length R.sc) (.slice R.tA mm.bE.length R.tc) mm.calls) 38)::(.blk b1 #[iV 0,.bool false,.bool false,.bool false,.bool false,.bool false,iV 0,iV 0,iV 0,iV 0,iV 0,iV 0,iV 0,iV 0,.slice none 0 0,.slice none 0 0,.slice none 0 0,iV 0] 38)::(((oB bB bs)::(eG bs++N9))++LF)):=by
    rw [hLF,hLC];exact St.ah7 (n:=k) (gs:=[.own 43 1 (.slice A93 (ps.length+1) c94) (ps.length+1) (((ps++[(bB,bs)])).flatMap jr),.blk KH (nu R.fx.length (upd U9 k X3.up) mm.off (.slice A93 (ps.length+1) c94) (.slice R.sA mm.aQ.length R.sc) (.slice R.tA mm.bE.length R.tc) mm.calls) 38,.blk b1 #[iV 0,.bool false,.bool false,.bool false,.bool false,.bool false,iV 0,iV 0,iV 0,iV 0,iV 0,iV 0,iV 0,iV 0,.slice none 0 0,.slice none 0 0,.slice none 0 0,iV 0] 38,.own 42 6 (.slice (aD bB 0) 4 4) 4 ((bs).flatMap BX.cells)]) (N:=N9) (E:=eG bs) (fs:=fs) hk4 (by subst aeM;subst bU;rw [Al,hz3];rw [<-Lb] at rV;exact rV)
   have SV:ps.length+1=(ps++[(bB,bs)]).length:=by simp
   rw [SV] at qh;refine bQ (k+1,upd U9 k X3.up,(ps++[(bB,bs)]),A93,c94,(.own 42 6 (.slice (aD bB 0) 4 4) 4 ((bs).flatMap BX.cells)::(eG bs++N9))) ?_ ⟨rfl,rfl,rfl,rfl,rfl,rfl,trivial⟩ (by first | omega | (dsimp only;omega));exact ⟨(by dsimp only;omega),(by dsimp only;rw [List.length_append,aai];rfl),(by dsimp only;exact MK aai (λj p hp=>(aeK j p hp).mono (λf hf=>(List.mem_append.1 hf).elim (λh=>List.mem_append_left _ (List.mem_cons_of_mem _ (List.mem_append_right _ h))) λh=>List.mem_append_right _ h)) (aha hbm hbc Al hup)),(by dsimp only;exact QJ aeL Al),qh⟩
  refine zN 4 ?_;refine vv (v:= .bool true) (MC hup (au rfl rfl (ay Tryz.underlying4 rfl (St.cl 0 zU rfl rfl)))) ?_;refine zN 10 ?_;refine bsI zU ?_;intro az1 anQ Bt;refine dU (news:=[.slice (aD z3.bb 0) 4 4]) (xs':=((ps++[(z3.bb,z3.bx)])).flatMap jr) 8 Bt (wn rfl) rfl rfl rfl rfl rfl rfl (St.lJ (xs:=[.slice (aD z3.bb 0) 4 4]) 0 Bt rfl rfl rfl) Tryz.underlying34 abd rfl (by decide) (bT rfl) (by simp only [maxLen];omega) (by omega) (jE (enc:=jr) rfl rfl) ?_;intro Ua Ub Yc axy axz qc;refine zQ ?_;refine je 9 qc aaD ?_ (hs:=by exact ah6);intro aiR Di;refine zN 4 ?_;refine vv (v:=iV ((k+1:Nat):Int)) jh ?_;refine zN 2 ?_;have qg:=Di.aR [0];have xB:=qg.dO [9,9,9,9,9,9,9,9,9,9];have yT:St B w0 aiR ((.own 43 1 (.slice Ua (ps.length+1) Ub) (ps.length+1) (((ps++[(z3.bb,z3.bx)])).flatMap jr))::(.blk KH (nu R.fx.length (upd U9 k X3.up) mm.off (.slice Ua (ps.length+1) Ub) (.slice R.sA mm.aQ.length R.sc) (.slice R.tA mm.bE.length R.tc) mm.calls) 38)::(.blk b1 #[iV 0,.bool false,.bool false,.bool false,.bool false,.bool false,iV 0,iV 0,iV 0,iV 0,iV 0,iV 0,iV 0,iV 0,.slice none 0 0,.slice none 0 0,.slice none 0 0,iV 0] 38)::(N9++LF)):=by
   rw [hLF,hLC];exact St.ah7 (n:=k) (gs:=[.own 43 1 (.slice Ua (ps.length+1) Ub) (ps.length+1) (((ps++[(z3.bb,z3.bx)])).flatMap jr),.blk KH (nu R.fx.length (upd U9 k X3.up) mm.off (.slice Ua (ps.length+1) Ub) (.slice R.sA mm.aQ.length R.sc) (.slice R.tA mm.bE.length R.tc) mm.calls) 38,.blk b1 #[iV 0,.bool false,.bool false,.bool false,.bool false,.bool false,iV 0,iV 0,iV 0,iV 0,iV 0,iV 0,iV 0,iV 0,.slice none 0 0,.slice none 0 0,.slice none 0 0,iV 0] 38]) (N:=N9) (E:=[]) (fs:=fs) hk4 (by subst aeM;subst bU;rw [Al,hz3,List.append_nil];rw [<-Lb] at xB;exact xB)
  have SV:ps.length+1=(ps++[(z3.bb,z3.bx)]).length:=by simp
  rw [SV] at yT;refine bQ (k+1,upd U9 k X3.up,(ps++[(z3.bb,z3.bx)]),Ua,Ub,N9) ?_ ⟨rfl,rfl,rfl,rfl,rfl,rfl,trivial⟩ (by first | omega | (dsimp only;omega));exact ⟨(by dsimp only;omega),(by dsimp only;rw [List.length_append,aai];rfl),(by dsimp only;exact MK aai (λj p hp=>(aeK j p hp).mono (λf hf=>hf)) (hLC▸ag9 (G.kV k hk4) Al hz3 hup hk4)),(by dsimp only;exact QJ aeL Al),yT⟩
 refine zN 13 ?_;refine stA 2 EK xV ?_ (h1:=by exact ah5 (fl:=R.fx.length) (U:=U9) (d:=mm.off) (bv:= .slice OA ps.length oc) (sv:= .slice R.sA mm.aQ.length R.sc) (tv:= .slice R.tA mm.bE.length R.tc) (calls:=mm.calls) rfl rfl rfl);intro ajn rW;refine zN 5 ?_;have hsf:Aq l=0:=aon;refine ⟨λh=>absurd hsf h,λ_=>?_⟩;have pG:=rW.aR [2,1];have h5:k=5:=by omega
 rw [hLF] at pG;refine ⟨_,[.own 43 1 (.slice OA ps.length oc) ps.length ((ps).flatMap jr)]++(N9++LC),rfl,?_,St.aqT (gs:=[.own 43 1 (.slice OA ps.length oc) ps.length ((ps).flatMap jr)]) (N:=N9) (fs:=fs) (LC:=LC) pG⟩;rw [<-hmm];exact ahb (ps:=ps) G (by omega) (λj hj=>aeL j (by omega)) (List.mem_append_left _ (List.mem_singleton.2 rfl)) (λf hf=>List.mem_append_right _ (List.mem_append_right _ (hLC▸hf))) (λj p hp=>(aeK j p hp).mono λf hf=>List.mem_append_right _ hf)
theorem alV {B:Nat} {w0 w:World} {fs:List Fact} {A:Option Addr} {c:Nat} {l:List Ac} (h0:Aq l=0) (S:St B w0 w fs) (hu:Uk B w0) (zL:Ro fs 11 A l.length (l.flatMap Ac.cells)) (hb:l.length*88<=reachBytes):
  Calls Tryz.prog 31 #[.slice A l.length c] w (λe w'=> ∃ row L,e= .returned (.tuple #[.agg row,iV 0])/\Uo L (qm.run l) row/\St B w0 w' (L++fs)):=(aah S hu zL hb).mono λ_ _ h=>h.2 h0
structure OX where
 fl:Nat
 U:Nat->Bool
 d:Dir
 BA:Option Addr
 bc:Nat
 sA:Option Addr
 sn:Nat
 sc:Nat
 tA:Option Addr
 tn:Nat
 tc:Nat
 calls:Nat
def OX.cells (x:OX):List Value:=Eu x.fl x.U x.d (.slice x.BA 5 x.bc) (.slice x.sA x.sn x.sc) (.slice x.tA x.tn x.tc) x.calls
structure Hq (L:List Fact) (m:Cl) (x:OX):Prop where
 up: ∀ j,j<5->x.U j=(m.ah j).up
 d:x.d=m.off
 fl:x.fl=m.fly.length
 sn:x.sn=m.aQ.length
 tn:x.tn=m.bE.length
 calls:x.calls=m.calls
 ps: ∃ ps:List (Nat×List BX),ps.length=5/\Ro L 1 x.BA 5 (ps.flatMap jr)/\ ∀ j p,ps[j]? =some p->P1 L m j p
 aQ:Ro L 14 x.sA x.sn (m.aQ.flatMap kF.cells)
 bE:Ro L 7 x.tA x.tn (m.bE.flatMap vo.cells)
theorem Uo.x {L:List Fact} {m:Cl} {row:Array Value} (h:Uo L m row): ∃ x:OX,row=x.cells.toArray/\Hq L m x:=by
 obtain ⟨U,BA,bc,sA,sc,tA,tc,ps,rfl,hU,hl,hB,hs,ht,hP⟩:=h;exact ⟨⟨m.fly.length,U,m.off,BA,bc,sA,m.aQ.length,sc,tA,m.bE.length,tc,m.calls⟩,rfl,hU,rfl,rfl,rfl,rfl,rfl,⟨ps,hl,hB,hP⟩,hs,ht⟩
theorem Hq.mono {L L':List Fact} {m:Cl} {x:OX} (h:Hq L m x) (hl: ∀ f∈L,f∈L'):Hq L' m x:=by
 obtain ⟨h1,h2,h3,h4,h5,h6,⟨ps,h7,h8,h9⟩,h10,h11⟩:=h;exact ⟨h1,h2,h3,h4,h5,h6,⟨ps,h7,h8.mono hl,λj p hj=>(h9 j p hj).mono hl⟩,h10.mono hl,h11.mono hl⟩
def Xm (B:Nat) (w0:World) (fs:List Fact) (l:List Ac) (e:Ending) (w':World):Prop:= ∃ x L,e= .returned (.tuple #[.agg (OX.cells x).toArray,.bool true])/\Hq L (qm.run l) x/\St B w0 w' (L++fs)
theorem ahc {α:Type} {l:List α} (h:l.length=5): ∃ a b c d e,l=[a,b,c,d,e]:=by
 match l,h with
 | [a,b,c,d,e],_=>exact ⟨a,b,c,d,e,rfl⟩
theorem aaj {B:Nat} {w0 w:World} {fs:List Fact} {A:Option Addr} {c:Nat} {l:List Ac} (h0:Aq l=0) (S:St B w0 w fs) (hu:Uk B w0) (zL:Ro fs 11 A l.length (l.flatMap Ac.cells)) (hb:l.length*88<=reachBytes):
    Calls Tryz.prog 27 #[.slice A l.length c] w (Xm B w0 fs l):=by
 refine fZ 28 Tryz.func27 ?_;refine cw [0] ?_;refine zN 2 ?_;refine fI S XY ?_;intro b1 w2 S3;refine zN 6 ?_;refine dG aq6 (alV h0 S3 hu (zL.mono (memT 1 rfl dJ)) hb) ?_;rintro _ w4 ⟨az2,L8,rfl,hO9,S5⟩;refine ⟨_,rfl,?_⟩;obtain ⟨x,rfl,hX⟩:=Uo.x hO9;obtain ⟨ps,hpl,hBA,hP⟩:=hX.ps;obtain ⟨p0,p1,p2,p3,p4,rfl⟩:=ahc hpl;have S6:=S5.perm (List.perm_middle (a:= .blk b1 #[iV 0,.bool false,.bool false,.bool false,.bool false,.bool false,iV 0,iV 0,iV 0,iV 0,iV 0,iV 0,iV 0,iV 0,.slice none 0 0,.slice none 0 0,.slice none 0 0,iV 0] 38) (l₁:=L8) (l₂:=fs));have hmL: ∀ f∈L8,f∈L8++fs:=λf h=>List.mem_append_left _ h;obtain ⟨bA,oA,hBa⟩:=CO hBA S6 (memT 1 rfl hmL) (by decide);refine zN 3 ?_;refine fI S6 XY ?_;intro b10 HY l6;refine stA 0 l6 xV ?_;intro Ct jT;refine zN 4 ?_;have iw:=jT.drew;refine aI 19 iw [1] ?_;refine aK 12 ?_;refine Cm (v:= .pointer (some ⟨bA,oA+0*1,none⟩)) (i:=12) (n:=6) rfl (by kernel_rfl) (by kernel_rfl) (by kernel_rfl) (St.del 1 iw) rfl (wg rfl rfl rfl rfl) rfl rfl (λ_ _=>(bD rfl rfl rfl (jV 0 hBa Tryz.underlying34 NV (by decide) (by decide)))) ?_;refine Cm (v:= .slice (some ⟨p0.1,0,none⟩) 4 4) (i:=13) (n:=5) rfl (by kernel_rfl) (by kernel_rfl) (by kernel_rfl) (St.del 1 iw) rfl (wg rfl rfl rfl rfl) rfl rfl (λ_ ZK=>(au rfl rfl (ay Tryz.underlying43 rfl (wR hBA hBa ZK (memT 1 rfl hmL) rfl)))) ?_;refine aK 3 ?_;refine aU 17 ?_;refine X4 17 rfl 1 iw xV ?_;intro X9 qb;refine aK 3 ?_;refine zN 3 ?_;have nJ:=qb.aR [1,0];exact ⟨x,L8,rfl,hX,nJ⟩
theorem adR {l:List Ac} (h: ∀ a∈l,dK a=0) (hl:l.length<=1000):Aq l=0:=by
 rw [Nq (by omega)];clear hl
 induction l with
 | nil=>rfl
 | cons a l ih=>rw [uL,if_neg (by rw [h a List.mem_cons_self];simp),ih λx hx=>h x (List.mem_cons_of_mem _ hx)]
theorem adS {B k:Nat} {w0 w:World} {fs gs:List Fact} {A:Option Addr} {l:List Ac} (hk:k<=l.length) (hl:l.length<=1000) (h0: ∀ a∈l,dK a=0) (S:St B w0 w fs) (hu:Uk B w0) (hA:Ro gs 11 A k ((l.take k).flatMap Ac.cells)) (hgs: ∀ f∈gs,f∈fs):
  Calls Tryz.prog 27 #[.slice A k k] w (Xm B w0 fs (l.take k)):=by
 have hn:(l.take k).length=k:=by rw [List.length_take];omega
 have h:=aaj (c:=k) (l:=l.take k) (A:=A) (adR (λa ha=>h0 a (List.mem_of_mem_take ha)) (by omega)) S hu;rw [hn] at h;exact h (hA.mono hgs) (by unfold reachBytes;omega)
theorem adT {xs:List OX} {LL L1:List Fact} {l:List Ac} {k:Nat} {x:OX} (h0:xs.length=k) (h: ∀ j y,xs[j]? =some y->Hq LL (qm.run (l.take j)) y) (hx:Hq L1 (qm.run (l.take k)) x): ∀ j y,(xs++[x])[j]? =some y->Hq (L1++LL) (qm.run (l.take j)) y:=by
 intro j y hj
 rcases Nat.lt_or_ge j xs.length with h1 | h1
 ·rw [List.getElem?_append_left h1] at hj;exact (h j y hj).mono λf hf=>List.mem_append_right _ hf
 rw [List.getElem?_append_right h1] at hj;have h2:j-xs.length=0:=by
  have:=(List.getElem?_eq_some_iff.1 hj).1;simp at this;omega
 rw [h2] at hj
 cases hj;obtain rfl:j=k:=by omega
 exact hx.mono λf hf=>List.mem_append_left _ hf
def ahd (B:Nat) (w0:World) (fs:List Fact) (l:List Ac) (e:Ending) (w':World):Prop:= ∃ (xs:List OX) (L:List Fact) (A':Option Addr) (c':Nat),e= .returned (.tuple #[.slice A' (l.length+1) c',.bool true])/\xs.length=l.length+1/\(∀ k x,xs[k]? =some x->Hq L (qm.run (l.take k)) x)/\St B w0 w' (.own 38 18 (.slice A' (l.length+1) c') (l.length+1) (xs.flatMap OX.cells)::(L++fs))
theorem Ke {B:Nat} {w0 w:World} {fs:List Fact} {A:Option Addr} {c:Nat} {l:List Ac} (hl:l.length<=1000) (hc:l.length<=c) (h0: ∀ a∈l,dK a=0) (S:St B w0 w fs) (hu:Uk B w0) (zL:Ro fs 11 A l.length (l.flatMap Ac.cells)):
    Calls Tryz.prog 23 #[.slice A l.length c] w (ahd B w0 fs l):=by
 refine fZ 29 Tryz.func23 ?_;refine cw [0] ?_;refine zN 7 ?_;have S1:=S.nil 38 18;change St _ _ _ ((.own 38 18 (.slice none 0 0) 0 ((([]:List OX)).flatMap OX.cells))::fs) at S1;refine zN 11 ?_;refine fH (X:=Nat×(Option Addr)×Nat×(List OX)×(List Fact)) (λxv=>[(0,.slice A l.length c),(2,.slice none 0 0),(3,.bool false),(4,.slice xv.2.1 xv.1 xv.2.2.1),(5,iV ((xv.1:Nat):Int))]) (λxv wr=>(xv.1<=l.length+1)/\(xv.2.2.2.1.length=xv.1)/\(∀ j y,xv.2.2.2.1[j]? =some y->Hq xv.2.2.2.2 (qm.run (l.take j)) y)/\St B w0 wr ((.own 38 18 (.slice xv.2.1 xv.1 xv.2.2.1) xv.1 ((xv.2.2.2.1).flatMap OX.cells))::(xv.2.2.2.2++fs))) (λxv=>l.length+1-xv.1) (0,none,0,[],[]) ?_ ?_ ?_
 ·exact ⟨Nat.zero_le _,rfl,(λj y h=>by simp at h),S1⟩
 ·exact ⟨rfl,rfl,rfl,rfl,rfl,trivial⟩
 rintro ⟨k,Ab,cb,xs,LL⟩ w2 ⟨hi4,hi5,F5,S3⟩
 try dsimp only at hi4 hi5 F5 S3
 refine bH (l':=[(0,.slice A l.length c),(2,.slice none 0 0),(3,.bool false),(4,.slice Ab k cb),(5,iV ((k:Nat):Int))]) ⟨rfl,rfl,rfl,rfl,rfl,trivial⟩ (aT (aT (aH (vm ?_))));refine zN 2 ?_;by_cases h7:((k:Nat):Int)<=((l.length:Nat):Int)
 ·refine zN 9 ?_;obtain ⟨A2,hs,hr,-⟩:=AQ (P:=Tryz.prog) (t:=26) (enc:=Ac.cells) (s:=11) (λ_=>rfl) (A:=A) (b:=l) (n:=l.length) (c:=c) (lo:=none) (hi:=(some (iV ((k:Nat):Int)))) (mx:=(some (iV ((k:Nat):Int)))) (l:=0) (k:=k) (q:=k) (m:=k) (c':=k) Tryz.underlying26 jR (aaC k k rfl rfl (by omega) (by omega)) (by omega) (by omega) (by omega) (by omega) (by omega);have hA2:Ro fs 11 A2 k ((l.take k).flatMap Ac.cells):=λB w hw=>hr w _ (zL B w hw);refine zN 4 ?_;refine vv (v:= .slice A2 k k) (jq rfl rfl lT (iK rfl) (iK rfl) (hs _)) ?_;refine dG aq5 (adS (by omega) hl h0 S3 hu hA2 (λf hf=>List.mem_cons_of_mem _ (List.mem_append_right _ hf))) ?_;rintro _ w8 ⟨gM,L12,rfl,awQ,S9⟩;refine ⟨_,rfl,?_⟩;have nU:=S9.perm (List.perm_middle (a:= .own 38 18 (.slice Ab k cb) k ((xs).flatMap OX.cells)) (l₁:=L12) (l₂:=LL++fs));rw [<-List.append_assoc] at nU;refine zN 3 ?_;refine fI nU XY ?_;intro b14 Ia lg;refine stA 0 lg xV ?_;intro Jp iN;refine zN 16 ?_;refine lZ (V:=λb=> .slice (some ⟨b,0,none⟩) 1 1) (row:= #[iV ((gM.fl:Nat):Int),.bool (gM.U 0),.bool (gM.U 1),.bool (gM.U 2),.bool (gM.U 3),.bool (gM.U 4),iV gM.d.p0.node,iV gM.d.p0.epoch,iV gM.d.p1.node,iV gM.d.p1.epoch,iV gM.d.p2.node,iV gM.d.p2.epoch,iV gM.d.p3.node,iV gM.d.p3.epoch,.slice gM.BA 5 gM.bc,.slice gM.sA gM.sn gM.sc,.slice gM.tA gM.tn gM.tc,iV ((gM.calls:Nat):Int)]) (t:=38) iN (wn rfl) rfl rfl (aP (vs:=[(0,.agg #[iV ((gM.fl:Nat):Int),.bool (gM.U 0),.bool (gM.U 1),.bool (gM.U 2),.bool (gM.U 3),.bool (gM.U 4),iV gM.d.p0.node,iV gM.d.p0.epoch,iV gM.d.p1.node,iV gM.d.p1.epoch,iV gM.d.p2.node,iV gM.d.p2.epoch,iV gM.d.p3.node,iV gM.d.p3.epoch,.slice gM.BA 5 gM.bc,.slice gM.sA gM.sn gM.sc,.slice gM.tA gM.tn gM.tc,iV ((gM.calls:Nat):Int)])]) rfl ⟨rfl,rfl,trivial⟩ (by kernel_rfl)) ?_;intro b19 SA qR;clear iN;refine dU (news:=[iV ((gM.fl:Nat):Int),.bool (gM.U 0),.bool (gM.U 1),.bool (gM.U 2),.bool (gM.U 3),.bool (gM.U 4),iV gM.d.p0.node,iV gM.d.p0.epoch,iV gM.d.p1.node,iV gM.d.p1.epoch,iV gM.d.p2.node,iV gM.d.p2.epoch,iV gM.d.p3.node,iV gM.d.p3.epoch,.slice gM.BA 5 gM.bc,.slice gM.sA gM.sn gM.sc,.slice gM.tA gM.tn gM.tc,iV ((gM.calls:Nat):Int)]) (xs':=(xs++[gM]).flatMap OX.cells) 2 qR (wn rfl) rfl rfl rfl rfl rfl rfl (St.lJ (xs:=[iV ((gM.fl:Nat):Int),.bool (gM.U 0),.bool (gM.U 1),.bool (gM.U 2),.bool (gM.U 3),.bool (gM.U 4),iV gM.d.p0.node,iV gM.d.p0.epoch,iV gM.d.p1.node,iV gM.d.p1.epoch,iV gM.d.p2.node,iV gM.d.p2.epoch,iV gM.d.p3.node,iV gM.d.p3.epoch,.slice gM.BA 5 gM.bc,.slice gM.sA gM.sn gM.sc,.slice gM.tA gM.tn gM.tc,iV ((gM.calls:Nat):Int)]) 0 qR rfl rfl rfl) Tryz.underlying23 aj9 rfl (by decide) (bT rfl) (by simp only [maxLen];omega) (by omega) (jE (enc:=OX.cells) rfl rfl) ?_;intro A22 c23 KA az3 az4 jg;refine zN 6 ?_;refine vv (v:=iV ((k+1:Nat):Int)) jh ?_;refine zN 2 ?_;have qO:=jg.aR [1,0];refine bQ (k+1,A22,c23,xs++[gM],L12++LL) ?_ ⟨rfl,rfl,rfl,rfl,rfl,trivial⟩ (by first | omega | (dsimp only;omega));exact ⟨(by dsimp only;omega),(by rw [List.length_append,hi5];rfl),(adT hi5 F5 awQ),qO⟩
 refine zN 18 ?_;obtain rfl:k=l.length+1:=by omega
 exact ⟨xs,LL,Ab,cb,rfl,hi5,F5,S3⟩
def Xn (b:bF):Bool:=decide (b.role=1\/b.role=2)
theorem alW {b:bF}:Xn b=true↔serves b:=by unfold Xn serves;simp
theorem aqU {L:List Fact} {m:Cl} {j q:Nat} {p:Nat×List BX} (h:P1 L m j p) (hq:q<4): ∃ y,p.2[q]? =some y/\y.b=(m.ah j).view q:=by
 have hb:=h.bm;have hv:(vB (m.ah j).view)[q]? =some ((m.ah j).view q):=by
  have h4:q=0\/q=1\/q=2\/q=3:=by omega
  rcases h4 with rfl | rfl | rfl | rfl<;>rfl
 rw [<-hb,List.getElem?_map] at hv
 cases h1:p.2[q]? with
 | none=>rw [h1] at hv;cases hv
 | some y=>rw [h1] at hv;exact ⟨y,rfl,Option.some.inj hv⟩
theorem Ew (y:BX) (w:World):
    Calls tP 25 #[.agg (bR y.b y.A y.c)] w (λe w'=>e= .returned (.bool (Xn y.b))/\Below w.heap.size w w'):=by
 have S:=St.start w;refine FC (N:=11) (vs:=[.agg (bR y.b y.A y.c)]) Tryz.func25 rfl rfl rfl ?_;refine cw [0] ?_;refine arE (nb (row:=(bR y.b y.A y.c)) S ?_);intro b1 w2 S3;clear S;refine va ?_;refine qk [1,2] ?_;refine Tw (vv (uZ 0 Lj) ?_);refine vv (au rfl rfl (ay Tryz.underlying3 rfl (St.cl 0 S3 rfl rfl))) ?_;by_cases h4:y.b.role=1
 ·refine vv (ahA h4) ?_;refine vm ?_;iterate 3 refine vs ?_
  refine vv ypT ?_;refine va ?_;refine qk [2] ?_;refine aij (pt ?_);rw [show Xn y.b=true from by unfold Xn;first | exact decide_eq_true (by omega) | exact decide_eq_false (by omega)];exact ⟨rfl,S3.low⟩
 refine vv (aaJ h4) ?_;refine vm ?_;refine vg (uZ 0 Lj) ?_;refine vg (au rfl rfl (ay Tryz.underlying3 rfl (St.cl 0 S3 rfl rfl))) ?_;by_cases h5:y.b.role=2
 ·refine vg (ahA h5) ?_;refine vv ypF ?_;refine va ?_;refine qk [2] ?_;refine aij (pt ?_);rw [show Xn y.b=true from by unfold Xn;first | exact decide_eq_true (by omega) | exact decide_eq_false (by omega)];exact ⟨rfl,S3.low⟩
 refine vg (aaJ h5) ?_;refine vv ypF ?_;refine va ?_;refine qk [2] ?_;refine aij (pt ?_);rw [show Xn y.b=false from by unfold Xn;first | exact decide_eq_true (by omega) | exact decide_eq_false (by omega)];exact ⟨rfl,S3.low⟩
theorem abL {P:Program} {t:TypeId} {xo yo:Operand} {w:World} {a b:Int} (ha:0<=a) (hb:0<b):(do eqGuard .rem t xo yo (iV a) (iV b);binOp .rem t (iV a) (iV b):Sem Value).run P w= .ok (iV (a % b)) w:=by
 obtain ⟨k,rfl⟩:=Int.eq_ofNat_of_zero_le ha;obtain ⟨m,rfl⟩:=Int.eq_ofNat_of_zero_le (Int.le_of_lt hb);exact SL (c:=k % m) rfl (by omega)
theorem aqV {P:Program} {w:World} {x:Int} (h: -9223372036854775807<=x/\x<=9223372036854775807):(Op.unary .neg (iV x)).run P w= .ok (iV (-x)) w:=by
 simp [Op.unary,Op.intArith,Int.zero_sub,wrap64_in (z:= -x) (by omega) (by omega)]
def aS (n m:Int):Int:=(if n<0 then-(n+1) else n) % m
theorem oH {n m:Int} (hm:0<m):0<=aS n m/\aS n m<m:=⟨Int.emod_nonneg _ (by omega),Int.emod_lt_of_pos _ hm⟩
def mh (k a b c:Int):Ev:=
 if aS k 8<3 then ⟨1,aS a 2,aS b 24,aS c 1000,0,0⟩ else if aS k 8<5 then ⟨2,0,0,0,0,0⟩
 else if aS k 8<7 then ⟨3,0,0,0,aS a 3,aS b 6⟩ else ⟨4,0,0,0,0,0⟩
structure Gr where
 kd:Int
 a:Int
 b:Int
 c:Int
 d:Int
def Gr.cells (g:Gr):List Value:=[iV g.kd,iV g.a,iV g.b,iV g.c,iV g.d]
def JI (x:Int):Prop:= -9223372036854775808<=x/\x<=9223372036854775807
def Gr.ok (g:Gr):Prop:=JI g.kd/\JI g.a/\JI g.b/\JI g.c/\JI g.d
def Uq (g:Gr) (e:Ev):Ac:=⟨2,aS g.a 3,aS g.b 2,0,0,if e.kind=4 then 2 else e.kind,e.producer,e.id,e.body,e.aN,e.hno⟩
def gB (g:Gr) (cr:Bool):Ac:=
 if aS g.kd 24<7 then Uq g (mh g.c g.a g.d g.d)
 else if aS g.kd 24<13 then ⟨3,aS g.a 3,0,0,0,0,0,0,0,0,0⟩
 else if aS g.kd 24=13 then ⟨4,0,0,aS g.c 20,0,0,0,0,0,0,0⟩
 else if aS g.kd 24=14 then ⟨5,0,0,aS g.c 20,0,0,0,0,0,0,0⟩
 else if aS g.kd 24=15 then ⟨6,0,0,aS g.c 20,0,0,0,0,0,0,0⟩
 else if aS g.kd 24=16 then ⟨10,aS g.a 3,aS g.b 2,0,0,0,0,0,0,0,0⟩
 else if aS g.kd 24=17/\cr=true then ⟨8,aS g.a 3,0,0,aS g.c 120,0,0,0,0,0,0⟩
 else if aS g.kd 24=18/\cr=true then ⟨9,aS g.a 3,0,0,0,0,0,0,0,0,0⟩
 else ⟨7,0,0,0,0,0,0,0,0,0,0⟩
theorem eZ {n m:Int} (hn: -9223372036854775808<=n/\n<=9223372036854775807) (hm:0<m) (w:World):
    Calls Tryz.prog 51 #[iV n,iV m] w (λe w'=>e= .returned (iV (aS n m))/\w'=w):=by
 have S:=St.start w;refine fZ 13 Tryz.func51 ?_;refine cw [0,1] ?_;refine zN 9 ?_;by_cases h1:n<0
 ·refine zN 6 ?_;refine vv (v:=iV (n+1)) jh ?_;refine vv (v:=iV (-(n+1))) (aa5 rfl rfl (aqV (by omega))) ?_;refine zN 7 ?_;refine vv (v:=iV ((-(n+1)) % m)) (aO rfl rfl rfl (abL (by omega) hm)) ?_;refine zN 5 ?_;rw [show aS n m=((-(n+1)) % m) from by unfold aS;first | rw [if_pos (by omega)] | rw [if_neg (by omega)]];exact ⟨rfl,rfl⟩
 refine zN 10 ?_;refine vv (v:=iV (n % m)) (aO rfl rfl rfl (abL (by omega) hm)) ?_;refine zN 5 ?_;rw [show aS n m=(n % m) from by unfold aS;first | rw [if_pos (by omega)] | rw [if_neg (by omega)]];exact ⟨rfl,rfl⟩
theorem kW {n m:Int} (hn: -9223372036854775808<=n/\n<=9223372036854775807) (hm:0<m) (w:World):
    Calls Tryz.prog 37 #[iV n,iV m] w (λe w'=>e= .returned (iV (aS n m))/\w'=w):=by
 have S:=St.start w;refine fZ 8 Tryz.func37 ?_;refine cw [0,1] ?_;refine zN 9 ?_;refine dG yM (eZ hn hm _) ?_;rintro _ w1 ⟨rfl,rfl⟩;refine ⟨_,rfl,?_⟩;refine zN 5 ?_;exact ⟨rfl,rfl⟩
theorem RY {k a b c:Int} (h1:JI k) (h2:JI a) (h3:JI b) (h4:JI c) (w:World):
    Calls Tryz.prog 93 #[.agg #[iV k,iV a,iV b,iV c]] w (λe w'=>e= .returned (.agg (Ev.cells (mh k a b c)).toArray)/\Below w.heap.size w w'):=by
 have S:=St.start w;refine fZ 36 Tryz.func93 ?_;refine cw [0] ?_;refine zN 2 ?_;refine iC S ?_;intro b1 w2 S3;refine fI S3 XZ ?_;intro b4 w5 S6;refine zQ ?_;refine Sm (vv (uZ 0 Wq) ?_);refine zQ ?_;refine dG yM (eZ (m:=8) h1 (by decide) _) ?_;rintro _ w7 ⟨rfl,rfl⟩;refine ⟨_,rfl,?_⟩;refine zN 5 ?_;have hp:=oH (n:=k) (m:=8) (by decide);refine zQ ?_;by_cases h8:(aS k 8)=0
 ·refine zN 9 ?_;have S9:=S6.drew;refine eO 11 10 S9 [] ?_;refine gk (v:= .pointer (some ⟨b1,1,none⟩)) 0 rfl S9 (λ_ _=>uZ _ zy) ?_;refine gy ?_;refine gk (v:= .pointer (some ⟨b1,2,none⟩)) 3 rfl S9 (λ_ _=>uZ _ zA) ?_;refine gy ?_;refine gk (v:= .pointer (some ⟨b1,3,none⟩)) 6 rfl S9 (λ_ _=>uZ _ Gt) ?_;refine gy ?_;refine eB (m:=4) (r:=2) (by kernel_rfl) ?_;refine kI (i:=2) rfl rfl (wn rfl) rfl rfl (iO (vs:=[iV a,iV 2]) rfl yM ⟨rfl,rfl,trivial⟩) (eZ (m:=2) h2 (by decide) _) ?_;rintro _ w16 ⟨rfl,rfl⟩;refine ⟨_,rfl,?_⟩;refine gy ?_;refine eB (m:=3) (r:=5) (by kernel_rfl) ?_;refine kI (i:=5) rfl rfl (wn rfl) rfl rfl (iO (vs:=[iV b,iV 24]) rfl yM ⟨rfl,rfl,trivial⟩) (eZ (m:=24) h3 (by decide) _) ?_;rintro _ Jp ⟨rfl,rfl⟩;refine ⟨_,rfl,?_⟩;refine gy ?_;refine eB (m:=2) (r:=8) (by kernel_rfl) ?_;refine kI (i:=8) rfl rfl (wn rfl) rfl rfl (iO (vs:=[iV c,iV 1000]) rfl yM ⟨rfl,rfl,trivial⟩) (eZ (m:=1000) h4 (by decide) _) ?_;rintro _ Kv ⟨rfl,rfl⟩;refine ⟨_,rfl,?_⟩;refine gy ?_;refine gk (v:= .agg #[iV 1,iV (aS a 2),iV (aS b 24),iV (aS c 1000),iV 0,iV 0]) 9 rfl S9 (λ_ _=>fQ) ?_;refine dX (by kernel_rfl) rfl rfl rfl ?_;refine sa 0 S9 iy ?_;intro SA qR;refine zQ ?_;refine iJ ?_;refine zN 5 ?_;rw [show mh k a b c=⟨1,(aS a 2),(aS b 24),(aS c 1000),0,0⟩ from by unfold mh;first | rw [if_pos (by omega)] | rw [if_neg (by omega),if_pos (by omega)] | rw [if_neg (by omega),if_neg (by omega),if_pos (by omega)] | rw [if_neg (by omega),if_neg (by omega),if_neg (by omega)]];exact ⟨rfl,qR.low⟩
 refine zN 7 ?_;by_cases h22:(aS k 8)=1
 ·refine zN 9 ?_;have lu:=S6.drew;refine eO 11 10 lu [] ?_;refine gk (v:= .pointer (some ⟨b1,1,none⟩)) 0 rfl lu (λ_ _=>uZ _ zy) ?_;refine gy ?_;refine gk (v:= .pointer (some ⟨b1,2,none⟩)) 3 rfl lu (λ_ _=>uZ _ zA) ?_;refine gy ?_;refine gk (v:= .pointer (some ⟨b1,3,none⟩)) 6 rfl lu (λ_ _=>uZ _ Gt) ?_;refine gy ?_;refine eB (m:=4) (r:=2) (by kernel_rfl) ?_;refine kI (i:=2) rfl rfl (wn rfl) rfl rfl (iO (vs:=[iV a,iV 2]) rfl yM ⟨rfl,rfl,trivial⟩) (eZ (m:=2) h2 (by decide) _) ?_;rintro _ WO ⟨rfl,rfl⟩;refine ⟨_,rfl,?_⟩;refine gy ?_;refine eB (m:=3) (r:=5) (by kernel_rfl) ?_;refine kI (i:=5) rfl rfl (wn rfl) rfl rfl (iO (vs:=[iV b,iV 24]) rfl yM ⟨rfl,rfl,trivial⟩) (eZ (m:=24) h3 (by decide) _) ?_;rintro _ WR ⟨rfl,rfl⟩;refine ⟨_,rfl,?_⟩;refine gy ?_;refine eB (m:=2) (r:=8) (by kernel_rfl) ?_;refine kI (i:=8) rfl rfl (wn rfl) rfl rfl (iO (vs:=[iV c,iV 1000]) rfl yM ⟨rfl,rfl,trivial⟩) (eZ (m:=1000) h4 (by decide) _) ?_;rintro _ w32 ⟨rfl,rfl⟩;refine ⟨_,rfl,?_⟩;refine gy ?_;refine gk (v:= .agg #[iV 1,iV (aS a 2),iV (aS b 24),iV (aS c 1000),iV 0,iV 0]) 9 rfl lu (λ_ _=>fQ) ?_;refine dX (by kernel_rfl) rfl rfl rfl ?_;refine sa 0 lu iy ?_;intro YQ sW;refine zQ ?_;refine iJ ?_;refine zN 5 ?_;rw [show mh k a b c=⟨1,(aS a 2),(aS b 24),(aS c 1000),0,0⟩ from by unfold mh;first | rw [if_pos (by omega)] | rw [if_neg (by omega),if_pos (by omega)] | rw [if_neg (by omega),if_neg (by omega),if_pos (by omega)] | rw [if_neg (by omega),if_neg (by omega),if_neg (by omega)]];exact ⟨rfl,sW.low⟩
 refine zN 6 ?_;by_cases yj:(aS k 8)=2
 ·refine zN 6 ?_;have pE:=S6.drew;refine eO 11 10 pE [] ?_;refine gk (v:= .pointer (some ⟨b1,1,none⟩)) 0 rfl pE (λ_ _=>uZ _ zy) ?_;refine gy ?_;refine gk (v:= .pointer (some ⟨b1,2,none⟩)) 3 rfl pE (λ_ _=>uZ _ zA) ?_;refine gy ?_;refine gk (v:= .pointer (some ⟨b1,3,none⟩)) 6 rfl pE (λ_ _=>uZ _ Gt) ?_;refine gy ?_;refine eB (m:=4) (r:=2) (by kernel_rfl) ?_;refine kI (i:=2) rfl rfl (wn rfl) rfl rfl (iO (vs:=[iV a,iV 2]) rfl yM ⟨rfl,rfl,trivial⟩) (eZ (m:=2) h2 (by decide) _) ?_;rintro _ PV ⟨rfl,rfl⟩;refine ⟨_,rfl,?_⟩;refine gy ?_;refine eB (m:=3) (r:=5) (by kernel_rfl) ?_;refine kI (i:=5) rfl rfl (wn rfl) rfl rfl (iO (vs:=[iV b,iV 24]) rfl yM ⟨rfl,rfl,trivial⟩) (eZ (m:=24) h3 (by decide) _) ?_;rintro _ w45 ⟨rfl,rfl⟩;refine ⟨_,rfl,?_⟩;refine gy ?_;refine eB (m:=2) (r:=8) (by kernel_rfl) ?_;refine kI (i:=8) rfl rfl (wn rfl) rfl rfl (iO (vs:=[iV c,iV 1000]) rfl yM ⟨rfl,rfl,trivial⟩) (eZ (m:=1000) h4 (by decide) _) ?_;rintro _ WS ⟨rfl,rfl⟩;refine ⟨_,rfl,?_⟩;refine gy ?_;refine gk (v:= .agg #[iV 1,iV (aS a 2),iV (aS b 24),iV (aS c 1000),iV 0,iV 0]) 9 rfl pE (λ_ _=>fQ) ?_;refine dX (by kernel_rfl) rfl rfl rfl ?_;refine sa 0 pE iy ?_;intro YE uG;refine zQ ?_;refine iJ ?_;refine zN 5 ?_;rw [show mh k a b c=⟨1,(aS a 2),(aS b 24),(aS c 1000),0,0⟩ from by unfold mh;first | rw [if_pos (by omega)] | rw [if_neg (by omega),if_pos (by omega)] | rw [if_neg (by omega),if_neg (by omega),if_pos (by omega)] | rw [if_neg (by omega),if_neg (by omega),if_neg (by omega)]];exact ⟨rfl,uG.low⟩
 refine zN 8 ?_;by_cases h50:(aS k 8)=3
 ·refine zN 10 ?_;refine vv (v:= .agg #[iV 2,iV 0,iV 0,iV 0,iV 0,iV 0]) fQ ?_;refine sa 0 S6 iy ?_;intro Ye oG;refine zN 6 ?_;rw [show mh k a b c=⟨2,0,0,0,0,0⟩ from by unfold mh;first | rw [if_pos (by omega)] | rw [if_neg (by omega),if_pos (by omega)] | rw [if_neg (by omega),if_neg (by omega),if_pos (by omega)] | rw [if_neg (by omega),if_neg (by omega),if_neg (by omega)]];exact ⟨rfl,oG.low⟩
 refine zN 6 ?_;by_cases h53:(aS k 8)=4
 ·refine zN 7 ?_;refine vv (v:= .agg #[iV 2,iV 0,iV 0,iV 0,iV 0,iV 0]) fQ ?_;refine sa 0 S6 iy ?_;intro w54 uN;refine zN 6 ?_;rw [show mh k a b c=⟨2,0,0,0,0,0⟩ from by unfold mh;first | rw [if_pos (by omega)] | rw [if_neg (by omega),if_pos (by omega)] | rw [if_neg (by omega),if_neg (by omega),if_pos (by omega)] | rw [if_neg (by omega),if_neg (by omega),if_neg (by omega)]];exact ⟨rfl,uN.low⟩
 refine zN 8 ?_;by_cases h56:(aS k 8)=5
 ·refine zN 9 ?_;have qd:=S6.drew;refine eO 9 8 qd [] ?_;refine gk (v:= .pointer (some ⟨b1,1,none⟩)) 0 rfl qd (λ_ _=>uZ _ zy) ?_;refine gy ?_;refine gk (v:= .pointer (some ⟨b1,2,none⟩)) 3 rfl qd (λ_ _=>uZ _ zA) ?_;refine gy ?_;refine eB (m:=4) (r:=2) (by kernel_rfl) ?_;refine kI (i:=2) rfl rfl (wn rfl) rfl rfl (iO (vs:=[iV a,iV 3]) rfl yM ⟨rfl,rfl,trivial⟩) (eZ (m:=3) h2 (by decide) _) ?_;rintro _ WK ⟨rfl,rfl⟩;refine ⟨_,rfl,?_⟩;refine gy ?_;refine eB (m:=3) (r:=5) (by kernel_rfl) ?_;refine kI (i:=5) rfl rfl (wn rfl) rfl rfl (iO (vs:=[iV b,iV 6]) rfl yM ⟨rfl,rfl,trivial⟩) (eZ (m:=6) h3 (by decide) _) ?_;rintro _ w63 ⟨rfl,rfl⟩;refine ⟨_,rfl,?_⟩;refine gy ?_;refine gk (v:= .agg #[iV (aS a 3),iV (aS b 6)]) 6 rfl qd (λ_ _=>fQ) ?_;refine gk (v:= .agg #[iV 3,iV 0,iV 0,iV 0,iV (aS a 3),iV (aS b 6)]) 7 rfl qd (λ_ _=>fQ) ?_;refine dX (by kernel_rfl) rfl rfl rfl ?_;refine sa 0 qd iy ?_;intro Sv sU;refine zQ ?_;refine iJ ?_;refine zN 5 ?_;rw [show mh k a b c=⟨3,0,0,0,(aS a 3),(aS b 6)⟩ from by unfold mh;first | rw [if_pos (by omega)] | rw [if_neg (by omega),if_pos (by omega)] | rw [if_neg (by omega),if_neg (by omega),if_pos (by omega)] | rw [if_neg (by omega),if_neg (by omega),if_neg (by omega)]];exact ⟨rfl,sU.low⟩
 refine zN 6 ?_;by_cases h68:(aS k 8)=6
 ·refine zN 6 ?_;have uF:=S6.drew;refine eO 9 8 uF [] ?_;refine gk (v:= .pointer (some ⟨b1,1,none⟩)) 0 rfl uF (λ_ _=>uZ _ zy) ?_;refine gy ?_;refine gk (v:= .pointer (some ⟨b1,2,none⟩)) 3 rfl uF (λ_ _=>uZ _ zA) ?_;refine gy ?_;refine eB (m:=4) (r:=2) (by kernel_rfl) ?_;refine kI (i:=2) rfl rfl (wn rfl) rfl rfl (iO (vs:=[iV a,iV 3]) rfl yM ⟨rfl,rfl,trivial⟩) (eZ (m:=3) h2 (by decide) _) ?_;rintro _ w74 ⟨rfl,rfl⟩;refine ⟨_,rfl,?_⟩;refine gy ?_;refine eB (m:=3) (r:=5) (by kernel_rfl) ?_;refine kI (i:=5) rfl rfl (wn rfl) rfl rfl (iO (vs:=[iV b,iV 6]) rfl yM ⟨rfl,rfl,trivial⟩) (eZ (m:=6) h3 (by decide) _) ?_;rintro _ w75 ⟨rfl,rfl⟩;refine ⟨_,rfl,?_⟩;refine gy ?_;refine gk (v:= .agg #[iV (aS a 3),iV (aS b 6)]) 6 rfl uF (λ_ _=>fQ) ?_;refine gk (v:= .agg #[iV 3,iV 0,iV 0,iV 0,iV (aS a 3),iV (aS b 6)]) 7 rfl uF (λ_ _=>fQ) ?_;refine dX (by kernel_rfl) rfl rfl rfl ?_;refine sa 0 uF iy ?_;intro w78 BI;refine zQ ?_;refine iJ ?_;refine zN 5 ?_;rw [show mh k a b c=⟨3,0,0,0,(aS a 3),(aS b 6)⟩ from by unfold mh;first | rw [if_pos (by omega)] | rw [if_neg (by omega),if_pos (by omega)] | rw [if_neg (by omega),if_neg (by omega),if_pos (by omega)] | rw [if_neg (by omega),if_neg (by omega),if_neg (by omega)]];exact ⟨rfl,BI.low⟩
 refine zN 10 ?_;refine vv (v:= .agg #[iV 4,iV 0,iV 0,iV 0,iV 0,iV 0]) fQ ?_;refine sa 0 S6 iy ?_;intro w80 tV;refine zN 4 ?_;rw [show mh k a b c=⟨4,0,0,0,0,0⟩ from by unfold mh;first | rw [if_pos (by omega)] | rw [if_neg (by omega),if_pos (by omega)] | rw [if_neg (by omega),if_neg (by omega),if_pos (by omega)] | rw [if_neg (by omega),if_neg (by omega),if_neg (by omega)]];exact ⟨rfl,tV.low⟩
theorem RZ {k a b c:Int} (h1:JI k) (h2:JI a) (h3:JI b) (h4:JI c) (w:World):
    Calls Tryz.prog 64 #[.agg #[iV k,iV a,iV b,iV c]] w (λe w'=>e= .returned (.agg (Ev.cells (mh k a b c)).toArray)/\Below w.heap.size w w'):=by
 have S:=St.start w;refine fZ 5 Tryz.func64 ?_;refine cw [0] ?_;refine zN 2 ?_;refine iC S ?_;intro b1 w2 S3;refine fI S3 XZ ?_;intro b4 w5 S6;refine zQ ?_;refine Tw (vv (au rfl rfl (nQ 1 S6 rfl Tryz.underlying157 rfl abk rfl)) ?_);refine cab arD S6 (RY h1 h2 h3 h4 _) ?_;intro w7 S8;refine sa 0 S8 iy ?_;intro Yw qN;refine zN 4 ?_;exact ⟨rfl,qN.low⟩
theorem aak {g:Gr} (h:g.ok) (cr:Bool) (w:World):
    Calls Tryz.prog 44 #[.agg #[iV g.kd,iV g.a,iV g.b,iV g.c,iV g.d],.bool cr] w (λe w'=>e= .returned (.agg (Ac.cells (gB g cr)).toArray)/\Below w.heap.size w w'):=by
 have S:=St.start w;refine fZ 91 Tryz.func44 ?_;refine cw [0,1] ?_;refine zN 2 ?_;refine iC S ?_;intro b1 w2 S3;refine fI S3 ad9 ?_;intro b4 w5 S6;refine zQ ?_;refine Tw (vv (uZ 1 M6) ?_);refine zQ ?_;refine dG OY (kW (m:=3) h.2.1 (by decide) _) ?_;rintro _ w7 ⟨rfl,rfl⟩;refine ⟨_,rfl,?_⟩;refine zN 2 ?_;refine Tw (vv (uZ 2 Wo) ?_);refine zQ ?_;refine dG OY (kW (m:=2) h.2.2.1 (by decide) _) ?_;rintro _ w8 ⟨rfl,rfl⟩;refine ⟨_,rfl,?_⟩;refine zN 2 ?_;refine Sm (vv (uZ 0 Wn) ?_);refine zQ ?_;refine dG OY (kW (m:=24) h.1 (by decide) _) ?_;rintro _ w9 ⟨rfl,rfl⟩;refine ⟨_,rfl,?_⟩;refine zN 7 ?_;by_cases h10:(aS g.kd 24)<7
 ·refine zN 3 ?_;refine AO (vv (uZ 3 zx) ?_);refine zQ ?_;refine vv (uZ 1 M6) ?_;refine zQ ?_;refine vv (uZ 4 M7) ?_;refine zQ ?_;refine vv (uZ 4 M7) ?_;refine zQ ?_;refine vv (v:= .agg #[iV g.c,iV g.a,iV g.d,iV g.d]) fQ ?_;refine cab arn S6 (RZ h.2.2.2.1 h.2.1 h.2.2.2.2 h.2.2.2.2 _) ?_;intro HY l6;refine fI l6 XZ ?_;intro b14 Ia lg;refine sa 0 lg iy ?_;intro Jp iN;refine zN 7 ?_;by_cases h19:(mh g.c g.a g.d g.d).kind=4
  ·refine zN 6 ?_;refine FM 0 iN mM ?_;intro SA qR;refine zN 7 ?_;refine vv (v:= .agg #[iV 2,iV (aS g.a 3),iV (aS g.b 2),iV 0,iV 0,iV 2,iV ((mh g.c g.a g.d g.d).producer),iV ((mh g.c g.a g.d g.d).id),iV ((mh g.c g.a g.d g.d).body),iV ((mh g.c g.a g.d g.d).aN),iV ((mh g.c g.a g.d g.d).hno)]) fQ ?_;refine sa 1 qR jR ?_;intro w22 lu;refine zN 6 ?_;rw [show gB g cr=⟨2,(aS g.a 3),(aS g.b 2),0,0,2,(mh g.c g.a g.d g.d).producer,(mh g.c g.a g.d g.d).id,(mh g.c g.a g.d g.d).body,(mh g.c g.a g.d g.d).aN,(mh g.c g.a g.d g.d).hno⟩ from by unfold gB;rw [if_pos (by omega),Uq,if_pos (by assumption)]];exact ⟨rfl,lu.low⟩
  refine zN 11 ?_;refine vv (v:= .agg #[iV 2,iV (aS g.a 3),iV (aS g.b 2),iV 0,iV 0,iV ((mh g.c g.a g.d g.d).kind),iV ((mh g.c g.a g.d g.d).producer),iV ((mh g.c g.a g.d g.d).id),iV ((mh g.c g.a g.d g.d).body),iV ((mh g.c g.a g.d g.d).aN),iV ((mh g.c g.a g.d g.d).hno)]) fQ ?_;refine sa 1 iN jR ?_;intro KA jg;refine zN 6 ?_;rw [show gB g cr=⟨2,(aS g.a 3),(aS g.b 2),0,0,(mh g.c g.a g.d g.d).kind,(mh g.c g.a g.d g.d).producer,(mh g.c g.a g.d g.d).id,(mh g.c g.a g.d g.d).body,(mh g.c g.a g.d g.d).aN,(mh g.c g.a g.d g.d).hno⟩ from by unfold gB;rw [if_pos (by omega),Uq,if_neg (by assumption)]];exact ⟨rfl,jg.low⟩
 refine zN 8 ?_;by_cases h26:(aS g.kd 24)<13
 ·refine zN 8 ?_;refine vv (v:= .agg #[iV 3,iV (aS g.a 3),iV 0,iV 0,iV 0,iV 0,iV 0,iV 0,iV 0,iV 0,iV 0]) fQ ?_;refine sa 0 S6 jR ?_;intro LA qO;refine zN 6 ?_;rw [show gB g cr=⟨3,(aS g.a 3),0,0,0,0,0,0,0,0,0⟩ from by unfold gB;rw [if_neg (by omega),if_pos (by omega)]];exact ⟨rfl,qO.low⟩
 refine zN 8 ?_;by_cases h29:(aS g.kd 24)=13
 ·refine zN 3 ?_;refine AO (vv (uZ 3 zx) ?_);refine zQ ?_;refine dG OY (kW (m:=20) h.2.2.2.1 (by decide) _) ?_;rintro _ WO ⟨rfl,rfl⟩;refine ⟨_,rfl,?_⟩;refine vv (v:= .agg #[iV 4,iV 0,iV 0,iV (aS g.c 20),iV 0,iV 0,iV 0,iV 0,iV 0,iV 0,iV 0]) fQ ?_;refine sa 0 S6 jR ?_;intro WR pz;refine zN 6 ?_;rw [show gB g cr=⟨4,0,0,(aS g.c 20),0,0,0,0,0,0,0⟩ from by unfold gB;rw [if_neg (by omega),if_neg (by omega),if_pos (by omega)]];exact ⟨rfl,pz.low⟩
 refine zN 8 ?_;by_cases h33:(aS g.kd 24)=14
 ·refine zN 3 ?_;refine AO (vv (uZ 3 zx) ?_);refine zQ ?_;refine dG OY (kW (m:=20) h.2.2.2.1 (by decide) _) ?_;rintro _ YQ ⟨rfl,rfl⟩;refine ⟨_,rfl,?_⟩;refine vv (v:= .agg #[iV 5,iV 0,iV 0,iV (aS g.c 20),iV 0,iV 0,iV 0,iV 0,iV 0,iV 0,iV 0]) fQ ?_;refine sa 0 S6 jR ?_;intro WI nJ;refine zN 6 ?_;rw [show gB g cr=⟨5,0,0,(aS g.c 20),0,0,0,0,0,0,0⟩ from by unfold gB;rw [if_neg (by omega),if_neg (by omega),if_neg (by omega),if_pos (by omega)]];exact ⟨rfl,nJ.low⟩
 refine zN 8 ?_;by_cases h37:(aS g.kd 24)=15
 ·refine zN 3 ?_;refine AO (vv (uZ 3 zx) ?_);refine zQ ?_;refine dG OY (kW (m:=20) h.2.2.2.1 (by decide) _) ?_;rintro _ w38 ⟨rfl,rfl⟩;refine ⟨_,rfl,?_⟩;refine vv (v:= .agg #[iV 6,iV 0,iV 0,iV (aS g.c 20),iV 0,iV 0,iV 0,iV 0,iV 0,iV 0,iV 0]) fQ ?_;refine sa 0 S6 jR ?_;intro w39 vk;refine zN 6 ?_;rw [show gB g cr=⟨6,0,0,(aS g.c 20),0,0,0,0,0,0,0⟩ from by unfold gB;rw [if_neg (by omega),if_neg (by omega),if_neg (by omega),if_neg (by omega),if_pos (by omega)]];exact ⟨rfl,vk.low⟩
 refine zN 8 ?_;by_cases h41:(aS g.kd 24)=16
 ·refine zN 9 ?_;refine vv (v:= .agg #[iV 10,iV (aS g.a 3),iV (aS g.b 2),iV 0,iV 0,iV 0,iV 0,iV 0,iV 0,iV 0,iV 0]) fQ ?_;refine sa 0 S6 jR ?_;intro Sr sG;refine zN 6 ?_;rw [show gB g cr=⟨10,(aS g.a 3),(aS g.b 2),0,0,0,0,0,0,0,0⟩ from by unfold gB;rw [if_neg (by omega),if_neg (by omega),if_neg (by omega),if_neg (by omega),if_neg (by omega),if_pos (by omega)]];exact ⟨rfl,sG.low⟩
 refine zN 6 ?_;have hp:=oH (n:=g.kd) (m:=24) (by decide)
 cases cr with
 | false=>
  refine zN 2 ?_;by_cases h44:(aS g.kd 24)=17
  ·refine zN 24 ?_;refine vv (v:= .agg #[iV 7,iV 0,iV 0,iV 0,iV 0,iV 0,iV 0,iV 0,iV 0,iV 0,iV 0]) fQ ?_;refine sa 0 S6 jR ?_;intro w45 qQ;refine zN 4 ?_;rw [show gB g false=⟨7,0,0,0,0,0,0,0,0,0,0⟩ from by unfold gB;rw [if_neg (by omega),if_neg (by omega),if_neg (by omega),if_neg (by omega),if_neg (by omega),if_neg (by omega),if_neg (λh=>by have:=h.2;cases this),if_neg (λh=>by have:=h.2;cases this)]];exact ⟨rfl,qQ.low⟩
  refine zN 11 ?_;by_cases h47:(aS g.kd 24)=18
  ·refine zN 13 ?_;refine vv (v:= .agg #[iV 7,iV 0,iV 0,iV 0,iV 0,iV 0,iV 0,iV 0,iV 0,iV 0,iV 0]) fQ ?_;refine sa 0 S6 jR ?_;intro YE uG;refine zN 4 ?_;rw [show gB g false=⟨7,0,0,0,0,0,0,0,0,0,0⟩ from by unfold gB;rw [if_neg (by omega),if_neg (by omega),if_neg (by omega),if_neg (by omega),if_neg (by omega),if_neg (by omega),if_neg (λh=>by have:=h.2;cases this),if_neg (λh=>by have:=h.2;cases this)]];exact ⟨rfl,uG.low⟩
  refine zN 13 ?_;refine vv (v:= .agg #[iV 7,iV 0,iV 0,iV 0,iV 0,iV 0,iV 0,iV 0,iV 0,iV 0,iV 0]) fQ ?_;refine sa 0 S6 jR ?_;intro Sw uE;refine zN 4 ?_;rw [show gB g false=⟨7,0,0,0,0,0,0,0,0,0,0⟩ from by unfold gB;rw [if_neg (by omega),if_neg (by omega),if_neg (by omega),if_neg (by omega),if_neg (by omega),if_neg (by omega),if_neg (λh=>by have:=h.2;cases this),if_neg (λh=>by have:=h.2;cases this)]];exact ⟨rfl,uE.low⟩
 | true=>
  refine zN 2 ?_;by_cases h52:(aS g.kd 24)=17
  ·refine zN 11 ?_;refine vv (uZ 3 zx) ?_;refine zQ ?_;refine dG OY (kW (m:=120) h.2.2.2.1 (by decide) _) ?_;rintro _ w53 ⟨rfl,rfl⟩;refine ⟨_,rfl,?_⟩;refine vv (v:= .agg #[iV 8,iV (aS g.a 3),iV 0,iV 0,iV (aS g.c 120),iV 0,iV 0,iV 0,iV 0,iV 0,iV 0]) fQ ?_;refine sa 0 S6 jR ?_;intro w54 uN;refine zN 6 ?_;rw [show gB g true=⟨8,(aS g.a 3),0,0,(aS g.c 120),0,0,0,0,0,0⟩ from by unfold gB;rw [if_neg (by omega),if_neg (by omega),if_neg (by omega),if_neg (by omega),if_neg (by omega),if_neg (by omega),if_pos ⟨by omega,rfl⟩]];exact ⟨rfl,uN.low⟩
  refine zN 11 ?_;by_cases h56:(aS g.kd 24)=18
  ·refine zN 11 ?_;refine vv (v:= .agg #[iV 9,iV (aS g.a 3),iV 0,iV 0,iV 0,iV 0,iV 0,iV 0,iV 0,iV 0,iV 0]) fQ ?_;refine sa 0 S6 jR ?_;intro w57 BJ;refine zN 6 ?_;rw [show gB g true=⟨9,(aS g.a 3),0,0,0,0,0,0,0,0,0⟩ from by unfold gB;rw [if_neg (by omega),if_neg (by omega),if_neg (by omega),if_neg (by omega),if_neg (by omega),if_neg (by omega),if_neg (λh=>by have:=h.1;omega),if_pos ⟨by omega,rfl⟩]];exact ⟨rfl,BJ.low⟩
  refine zN 13 ?_;refine vv (v:= .agg #[iV 7,iV 0,iV 0,iV 0,iV 0,iV 0,iV 0,iV 0,iV 0,iV 0,iV 0]) fQ ?_;refine sa 0 S6 jR ?_;intro w59 Sy;refine zN 4 ?_;rw [show gB g true=⟨7,0,0,0,0,0,0,0,0,0,0⟩ from by unfold gB;rw [if_neg (by omega),if_neg (by omega),if_neg (by omega),if_neg (by omega),if_neg (by omega),if_neg (by omega),if_neg (λh=>by have:=h.1;omega),if_neg (λh=>by have:=h.1;omega)]];exact ⟨rfl,Sy.low⟩
def mks:List Ac:=[⟨1,0,0,0,0,0,0,0,0,0,0⟩,⟨1,1,1,0,0,0,0,0,0,0,0⟩]
def fu (gs:List Gr) (m:Nat) (cr:Bool):List Ac:=mks++(gs.take m).map (gB · cr)
theorem R4 {gs:List Gr} {k:Nat} {g:Gr} {cr:Bool} (h:gs[k]? =some g):fu gs (k+1) cr=fu gs k cr++[gB g cr]:=by
 unfold fu;rw [List.take_add_one,h];simp
theorem JJ {gs:List Gr} {k m:Nat} {cr:Bool} (h1:k<=gs.length) (h2:k<=m) (h3:k=gs.length\/k=m):fu gs k cr=fu gs m cr:=by
 rcases h3 with rfl | rfl
 ·unfold fu;rw [List.take_of_length_le (Nat.le_refl _),List.take_of_length_le h2]
 rfl
theorem JK {gs:List Gr} {k:Nat} {cr:Bool} (h:k<=gs.length):(fu gs k cr).length=2+k:=by
 unfold fu mks;simp;omega
theorem OQ {gs:List Gr} {A:Option Addr} {c m:Nat} {cr:Bool} (hm:m<=1000) (hg: ∀ g∈gs,g.ok) (w:World) (h:Rd w w.heap.size 5 A gs.length (gs.flatMap Gr.cells)):
    Calls Tryz.prog 24 #[.slice A gs.length c,iV ((m:Nat):Int),.bool cr] w (λe w'=> ∃ A' c',e= .returned (.slice A' ((fu gs m cr).length) c')/\St w.heap.size w w' [.own 77 11 (.slice A' ((fu gs m cr).length) c') ((fu gs m cr).length) ((fu gs m cr).flatMap Ac.cells)]):=by
 have S:=(St.start w).bS h;refine fZ 35 Tryz.func24 ?_;refine cw [0,1,2] ?_;refine zN 7 ?_;refine vv (v:= .agg #[iV 1,iV 0,iV 0,iV 0,iV 0,iV 0,iV 0,iV 0,iV 0,iV 0,iV 0]) fQ ?_;refine vv (v:= .agg #[iV 1,iV 1,iV 1,iV 0,iV 0,iV 0,iV 0,iV 0,iV 0,iV 0,iV 0]) fQ ?_;refine pY (V:=λb=> .slice (some ⟨b,0,none⟩) 2 2) (row:=(mks.flatMap Ac.cells).toArray) (t:=77) (n:=2) (s:=11) (xs:=mks.flatMap Ac.cells) S (wn rfl) rfl rfl (aP (vs:=[(0,.agg #[iV 1,iV 0,iV 0,iV 0,iV 0,iV 0,iV 0,iV 0,iV 0,iV 0,iV 0]),(1,.agg #[iV 1,iV 1,iV 1,iV 0,iV 0,iV 0,iV 0,iV 0,iV 0,iV 0,iV 0])]) rfl ⟨rfl,rfl,rfl,rfl,trivial⟩ (by kernel_rfl)) rfl (by decide) rfl ?_;intro b1 w2 S3;refine zN 10 ?_;refine fH (X:=Nat×(Option Addr)×Nat) (λxv=>[(0,.slice A gs.length c),(1,iV ((m:Nat):Int)),(2,.bool cr),(6,.slice none 0 0),(7,.slice xv.2.1 (2+xv.1) xv.2.2),(8,iV ((xv.1:Nat):Int))]) (λxv wr=>(xv.1<=gs.length)/\(xv.1<=m)/\St w.heap.size w wr [.own 77 11 (.slice xv.2.1 (2+xv.1) xv.2.2) (2+xv.1) ((fu gs xv.1 cr).flatMap Ac.cells),.rd 5 A gs.length ((gs).flatMap Gr.cells)]) (λxv=>gs.length-xv.1) (0,(some ⟨b1,0,none⟩),2) ?_ ?_ ?_
 ·exact ⟨Nat.zero_le _,Nat.zero_le _,S3⟩
 ·exact ⟨rfl,rfl,rfl,rfl,rfl,rfl,trivial⟩
 rintro ⟨k,Ab,cb⟩ w4 ⟨F5,JG,S5⟩
 try dsimp only at F5 JG S5
 refine bH (l':=[(0,.slice A gs.length c),(1,iV ((m:Nat):Int)),(2,.bool cr),(6,.slice none 0 0),(7,.slice Ab (2+k) cb),(8,iV ((k:Nat):Int))]) ⟨rfl,rfl,rfl,rfl,rfl,rfl,trivial⟩ (aT (aT (aH (vm ?_))));refine zQ ?_;refine vv (v:=iV ((gs.length:Nat):Int)) (nT (vs:=[.slice A gs.length c]) rfl ⟨rfl,trivial⟩ λ_=>aaA rfl Tryz.underlying22) ?_;by_cases h8:((k:Nat):Int)< ((gs.length:Nat):Int)
 ·refine zN 4 ?_;by_cases h9:((k:Nat):Int)< ((m:Nat):Int)
  ·refine zN 13 ?_;obtain ⟨b10,o11,rfl⟩:=Rd.addr (St.rd 1 S5 rfl) (by omega);obtain ⟨AX,ajL⟩:=Ku k (St.rd 1 S5 rfl) (by omega);refine vv (v:= .pointer (some ⟨b10,o11+k*5,none⟩)) (bD rfl rfl rfl (rF k Tryz.underlying22 Sl (by omega) (by omega))) ?_;refine vv (au rfl rfl (aA (cs:=Gr.cells AX) Tryz.underlying109 rfl Sl rfl (Rd.wS (St.rd 1 S5 rfl) (λ_ _ h=>bV (enc:=Gr.cells) (sz:=5) (λ_=>rfl) ajL h)))) ?_;refine zQ ?_;refine cab aq7 S5 (aak (hg _ (List.mem_of_getElem? ajL)) cr _) ?_;intro KE iw;refine fI iw ad9 ?_;intro b17 Kv kT;refine sa 0 kT jR ?_;intro SA qR;refine zN 5 ?_;refine X0 qR ?_;intro Qb KC jG;refine dU (news:=[iV ((gB AX cr).kd),iV ((gB AX cr).nd),iV ((gB AX cr).qu),iV ((gB AX cr).at_),iV ((gB AX cr).kp),iV ((gB AX cr).ek),iV ((gB AX cr).ep),iV ((gB AX cr).ei),iV ((gB AX cr).eb),iV ((gB AX cr).eh),iV ((gB AX cr).en)]) (xs':=(fu gs (k+1) cr).flatMap Ac.cells) 2 jG (wn rfl) rfl rfl rfl rfl rfl rfl (St.lJ (xs:=[iV ((gB AX cr).kd),iV ((gB AX cr).nd),iV ((gB AX cr).qu),iV ((gB AX cr).at_),iV ((gB AX cr).kp),iV ((gB AX cr).ek),iV ((gB AX cr).ep),iV ((gB AX cr).ei),iV ((gB AX cr).eb),iV ((gB AX cr).eh),iV ((gB AX cr).en)]) 0 jG rfl rfl rfl) Tryz.underlying26 akA rfl (by decide) (bT rfl) (by simp only [maxLen];omega) (by omega) (jE (enc:=Ac.cells) (R4 ajL).symm rfl) ?_;intro A25 c26 LA hc29 atv qO;refine zN 6 ?_;refine vv (v:=iV ((k+1:Nat):Int)) jh ?_;refine zN 2 ?_;have mW:=qO.aR [1,0];refine bQ (k+1,A25,c26) ?_ ⟨rfl,rfl,rfl,rfl,rfl,rfl,trivial⟩ (by first | omega | (dsimp only;omega));exact ⟨(by dsimp only;omega),(by dsimp only;omega),mW⟩
  refine zN 18 ?_;have pz:=S5.aR [1];rw [show fu gs m cr=fu gs k cr from (JJ (by omega) (by omega) (by omega)).symm,JK (by omega)];exact ⟨Ab,cb,rfl,pz⟩
 refine zN 22 ?_;have qP:=S5.aR [1];rw [show fu gs m cr=fu gs k cr from (JJ (by omega) (by omega) (by omega)).symm,JK (by omega)];exact ⟨Ab,cb,rfl,qP⟩
open yB
theorem Xo {α β:Type} {R:α->β->Prop} {r:β}: ∀ {l:List α} {m j:Nat} {u:α},dQ R l (List.replicate m r)->l[j]? =some u->R u r
 | _::_,_+1,0,_,h,hj=>by cases hj;exact h.1
 | _::l,m+1,j+1,_,h,hj=>Xo (l:=l) (m:=m) h.2 hj
 | [],_,_,_,_,hj=>by simp at hj
theorem wf_i64 {x:Int} (h:(Lit.int .i64 x).wf=true):JI x:=by
 have h1:IntKind.i64.min= -9223372036854775808:=by decide
 have h2:IntKind.i64.max=9223372036854775807:=by decide
 unfold JI;simp only [Lit.wf,h1,h2,Bool.and_eq_true,decide_eq_true_eq] at h;exact h
theorem ahe {α:Type} [yB α] {W:World} {v:Value} {b:Nat} (h:Fits W v (.sl b (List.replicate (size α) (.int .i64)))) {A:Option Addr} {n c:Nat} {l:List α} (hv:v= .slice A n c) (hr:Rd W W.heap.size (size α) A n (jJ l)): ∀ x∈l,∀ y∈ints x,JI y:=by
 intro x hx y hy;obtain ⟨k,hk⟩:=List.mem_iff_getElem?.1 hx;obtain ⟨j,hj⟩:=List.mem_iff_getElem?.1 hy;have hkn:k<n:=by rw [<-hr.MP];exact (List.getElem?_eq_some_iff.1 hk).1
 obtain ⟨bb,off,a,rfl,_,ha,hc⟩:=hr.ajV hkn;rw [hk] at ha
 cases ha;have h1:=hc j y hj;have hjs:j<size α:=by rw [<-len x];exact (List.getElem?_eq_some_iff.1 hj).1
 rcases h with h | ⟨ad,n',c',h,_,_,_,hcell⟩
 ·rw [hv] at h;cases h
 rw [hv] at h
 cases h;obtain ⟨cs,h2,_,h3⟩:=hcell k hkn;have hl:=h2.len;rw [List.length_replicate] at hl;have hu:cs[j]? =some (cs[j]'(by omega)):=List.getElem?_eq_getElem (by omega);have h4:=h3 j _ hu;rw [List.length_replicate,Go.WideShapes.add_plain,h1] at h4;obtain ⟨z,hz,hw⟩:=Xo h2 hu;rw [hz] at h4
 cases h4;exact wf_i64 hw
instance:yB Gr where
 size:=5
 ints x:=[x.kd,x.a,x.b,x.c,x.d]
 of l:=⟨l.getD 0 0,l.getD 1 0,l.getD 2 0,l.getD 3 0,l.getD 4 0⟩
 pos:=by omega
 len _:=rfl
 inv xs h:=by
  match xs,h with
  | [a,b,c,d,e],_=>rfl
theorem adU:flat Tryz.prog 30 22=some [.sl 40 (List.replicate 5 (.int .i64))]:=by kernel_rfl
theorem aal {W:World} {v:Value} (h:Te Tryz.prog W v 22): ∃ A c,∃ l:List Gr,v= .slice A l.length c/\Rd W W.heap.size 5 A l.length (l.flatMap Gr.cells)/\ ∀ g∈l,g.ok:=by
 obtain ⟨⟨base,hk⟩,l,hl,ha⟩:=h;rw [adU] at hl
 cases hl;obtain ⟨A,n,c,rfl⟩:=okWide_slice Tryz.underlying22 hk;obtain ⟨a,l1,e,h1,_⟩:=dQ.xQ ha;simp [Value.cells] at e;obtain ⟨rfl,_⟩:=e;obtain ⟨A',n',c',l,e,hr,hn,hc,hb,h0⟩:=Xz (α:=Gr) h1;have hw:=ahe (α:=Gr) h1 e hr;simp only [Value.slice.injEq] at e;obtain ⟨rfl,rfl,rfl⟩:=e;have hlen:l.length=n:=Rd.MP (α:=Gr) hr;subst hlen;refine ⟨A,c,l,rfl,hr,λg hg=>?_⟩;have h:=hw g hg;exact ⟨h _ (by simp [ints]),h _ (by simp [ints]),h _ (by simp [ints]),h _ (by simp [ints]),h _ (by simp [ints])⟩
end
section
open ChangeShapes WideShapes RowKit
theorem adV {gs:List Gr} {A:Option Addr} {c m:Nat} {cr:Bool} {s:List Ac} (hs:s=fu gs m cr) (hm:m<=1000) (hg: ∀ g∈gs,g.ok) (w:World) (h:Rd w w.heap.size 5 A gs.length (gs.flatMap Gr.cells)):
  Calls tP 24 #[.slice A gs.length c,iV ((m:Nat):Int),.bool cr] w (λe w'=> ∃ A' c',e= .returned (.slice A' s.length c')/\St w.heap.size w w' [.own 77 11 (.slice A' s.length c') s.length (s.flatMap Ac.cells)]):=by
 subst hs;exact OQ hm hg w h
def ajM (m:Cl) (q:Nat):Prop:= ∀ n n',n<5->n'<5->serves ((m.ah n).view q)->serves ((m.ah n').view q)->n=n'
theorem adW {m:Cl} {q n k:Nat} (h:ajM m q) (hq:n<5) (h1:k<=1) (h2:k=1-> ∃ j,j<n/\serves ((m.ah j).view q)) (hv:serves ((m.ah n).view q)):k=0:=by
 rcases Nat.eq_zero_or_pos k with h3 | h3
 ·exact h3
 obtain ⟨j,hj,h4⟩:=h2 (by omega);have:=h j n (by omega) hq h4 hv;omega
theorem aam {gs:List Gr} {s:List Ac} {A:Option Addr} {c:Nat} {w:World} (hs:s=fu gs 60 true) (hg: ∀ g∈gs,g.ok) (h0: ∀ a∈s,dK a=0) (hsl:s.length<=1000) (hu:Uk w.heap.size w) (h:Rd w w.heap.size 5 A gs.length (gs.flatMap Gr.cells)) (hone: ∀ i q,q<2->ajM (qm.run (s.take i)) q):
    Calls tP 3 #[.slice A gs.length c] w (λe w'=>e= .returned (.bool true)/\Below w.heap.size w w'):=by
 have S:=(St.start w).bS h;refine fZ 52 Tryz.func3 ?_;refine cw [0] ?_;refine zN 8 ?_;refine dG aq4 (adV (m:=60) hs (by decide) hg _ ((St.rd 0 S rfl))) ?_;rintro _ w3 ⟨A1,c2,rfl,T5⟩;refine ⟨_,rfl,?_⟩;have S4:=S.ext T5 rfl;change St _ _ _ [.own 77 11 (.slice A1 s.length c2) s.length ((s).flatMap Ac.cells),_] at S4;refine dG aq3 (Ke (by omega) (dD (S4.own 0 rfl)).1 h0 S4 hu (Ro.own (List.mem_of_getElem? (i:=0) rfl))) ?_;rintro _ w6 ⟨xs8,L9,yh,c11,rfl,axA,awR,S7⟩;refine ⟨_,rfl,?_⟩;change St _ _ _ ((.own 38 18 (.slice yh (s.length+1) c11) (s.length+1) ((xs8).flatMap OX.cells))::(L9++[.own 77 11 (.slice A1 s.length c2) s.length ((s).flatMap Ac.cells),.rd 5 A gs.length ((gs).flatMap Gr.cells)])) at S7;refine zN 14 ?_;refine fH (X:=Nat) (λxv=>[(2,.bool false),(3,.slice yh (s.length+1) c11),(4,.bool true),(5,iV ((xv:Nat):Int))]) (λxv wr=>(xv<=s.length+1)/\St w.heap.size w wr ((.own 38 18 (.slice yh (s.length+1) c11) (s.length+1) ((xs8).flatMap OX.cells))::(L9++[.own 77 11 (.slice A1 s.length c2) s.length ((s).flatMap Ac.cells),.rd 5 A gs.length ((gs).flatMap Gr.cells)]))) (λxv=>s.length+1-xv) (0) ?_ ?_ ?_
 ·exact ⟨Nat.zero_le _,S7⟩
 ·exact ⟨rfl,rfl,rfl,rfl,trivial⟩
 rintro i KE ⟨awS,iw⟩
 try dsimp only at awS iw
 refine bH (l':=[(2,.bool false),(3,.slice yh (s.length+1) c11),(4,.bool true),(5,iV ((i:Nat):Int))]) ⟨rfl,rfl,rfl,rfl,trivial⟩ (aT (aT (aH (vm ?_))));refine zQ ?_;refine vv (v:=iV ((s.length+1:Nat):Int)) (nT (vs:=[.slice yh (s.length+1) c11]) rfl ⟨rfl,trivial⟩ λ_=>aaA rfl Tryz.underlying23) ?_;by_cases sZ:((i:Nat):Int)< ((s.length+1:Nat):Int)
 ·refine zN 9 ?_;obtain ⟨x,hx⟩: ∃ x,xs8[i]? =some x:=⟨_,List.getElem?_eq_getElem (by omega)⟩;have hX:=awR _ _ hx;obtain ⟨ps,hpl,hBA,hp1⟩:=hX.ps;have hmL: ∀ f∈L9,f∈(L9++[.own 77 11 (.slice A1 s.length c2) s.length ((s).flatMap Ac.cells),.rd 5 A gs.length ((gs).flatMap Gr.cells)]):=λf h=>List.mem_append_left _ h;obtain ⟨bA,oA,hBa⟩:=CO hBA iw (memT 1 rfl hmL) (by decide);refine zN 5 ?_;refine fH (X:=Nat) (λxv=>[(2,.bool false),(3,.slice yh (s.length+1) c11),(4,.bool true),(5,iV ((i:Nat):Int)),(6,iV ((xv:Nat):Int))]) (λxv wr=>(xv<=2)/\St w.heap.size w wr ((.own 38 18 (.slice yh (s.length+1) c11) (s.length+1) ((xs8).flatMap OX.cells))::(L9++[.own 77 11 (.slice A1 s.length c2) s.length ((s).flatMap Ac.cells),.rd 5 A gs.length ((gs).flatMap Gr.cells)]))) (λxv=>2-xv) (0) ?_ ?_ ?_
  ·exact ⟨Nat.zero_le _,iw⟩
  ·exact ⟨rfl,rfl,rfl,rfl,rfl,trivial⟩
  rintro q Kv ⟨aiy,kT⟩
  try dsimp only at aiy kT
  refine bH (l':=[(2,.bool false),(3,.slice yh (s.length+1) c11),(4,.bool true),(5,iV ((i:Nat):Int)),(6,iV ((q:Nat):Int))]) ⟨rfl,rfl,rfl,rfl,rfl,trivial⟩ (aT (aT (aH (vm ?_))));by_cases h21:((q:Nat):Int)<2
  ·refine zN 20 ?_;refine fH (X:=Nat×Nat) (λxv=>[(2,.bool false),(3,.slice yh (s.length+1) c11),(4,.bool true),(5,iV ((i:Nat):Int)),(6,iV ((q:Nat):Int)),(7,iV ((xv.2:Nat):Int)),(8,iV ((xv.1:Nat):Int))]) (λxv wr=>(xv.1<=5)/\(xv.2<=1)/\(xv.2=1-> ∃ j,j<xv.1/\serves (((qm.run (s.take i)).ah j).view q))/\St w.heap.size w wr ((.own 38 18 (.slice yh (s.length+1) c11) (s.length+1) ((xs8).flatMap OX.cells))::(L9++[.own 77 11 (.slice A1 s.length c2) s.length ((s).flatMap Ac.cells),.rd 5 A gs.length ((gs).flatMap Gr.cells)]))) (λxv=>5-xv.1) (0,0) ?_ ?_ ?_
   ·exact ⟨Nat.zero_le _,Nat.zero_le _,(λe=>by cases e),kT⟩
   ·exact ⟨rfl,rfl,rfl,rfl,rfl,rfl,rfl,trivial⟩
   rintro ⟨n,many⟩ w22 ⟨awT,aoq,ajN,lu⟩
   try dsimp only at awT aoq ajN lu
   refine bH (l':=[(2,.bool false),(3,.slice yh (s.length+1) c11),(4,.bool true),(5,iV ((i:Nat):Int)),(6,iV ((q:Nat):Int)),(7,iV ((many:Nat):Int)),(8,iV ((n:Nat):Int))]) ⟨rfl,rfl,rfl,rfl,rfl,rfl,rfl,trivial⟩ (aT (aT (aH (vm ?_))));refine zN 2 ?_;obtain ⟨b27,o28,rfl⟩:=Rd.addr (St.ord 0 lu rfl) (by omega);refine vv (v:= .pointer (some ⟨b27,o28+i*18,none⟩)) (bD rfl rfl rfl (rF i Tryz.underlying23 xV (by omega) (by omega))) ?_;refine zQ ?_;refine vv (au rfl rfl (ay Tryz.underlying34 rfl (Rd.Wj (i:=14) (St.ord 0 lu rfl) (bV (enc:=OX.cells) (sz:=18) (λ_=>rfl) hx rfl)))) ?_;refine zQ ?_;by_cases h29:((n:Nat):Int)<5
   ·refine zN 9 ?_;obtain ⟨p,hp⟩: ∃ p,ps[n]? =some p:=⟨_,List.getElem?_eq_getElem (by omega)⟩;have hpp:=hp1 _ _ hp;obtain ⟨y,hy,hyb⟩:=aqU hpp (q:=q) (by omega);refine zN 3 ?_;refine vv (v:= .pointer (some ⟨b27,o28+i*18,none⟩)) (bD rfl rfl rfl (rF i Tryz.underlying23 xV (by omega) (by omega))) ?_;refine zQ ?_;refine vv (au rfl rfl (ay Tryz.underlying34 rfl (Rd.Wj (i:=14) (St.ord 0 lu rfl) (bV (enc:=OX.cells) (sz:=18) (λ_=>rfl) hx rfl)))) ?_;refine zQ ?_;refine vv (v:= .pointer (some ⟨bA,oA+n*1,none⟩)) (bD rfl rfl rfl (jV n hBa Tryz.underlying34 NV rfl (by omega))) ?_;refine vv (v:= .slice (some ⟨p.1,0,none⟩) 4 4) (au rfl rfl (ay Tryz.underlying43 rfl (wR hBA hBa lu (memT 1 rfl hmL) (bV (enc:=jr) (sz:=1) (k:=n) (j:=0) (λ_=>rfl) hp rfl)))) ?_;refine zQ ?_;refine vv (ku q) ?_;refine vv (v:= .agg (bR y.b y.A y.c)) (au rfl rfl (aA (cs:=BX.cells y) Tryz.underlying42 rfl aB rfl (λj u hu=>by rw [Nat.add_assoc];exact wR hpp.rd rfl lu (memT 1 rfl hmL) (bV (enc:=BX.cells) (sz:=6) (k:=q) (λ_=>rfl) hy hu)))) ?_
    rcases ajO:Xn y.b with _ | _
    ·have HV:=λw=>Ew y w;rw [ajO] at HV;refine cab al1 lu (HV _) ?_;intro WR pz;refine zN 8 ?_;refine vv (v:=iV ((n+1:Nat):Int)) jh ?_;refine zN 2 ?_;refine bQ (n+1,many) ?_ ⟨rfl,rfl,rfl,rfl,rfl,rfl,rfl,trivial⟩ (by first | omega | (dsimp only;omega));exact ⟨(by omega),(by omega),(λe=>by obtain ⟨j,h1,h2⟩:=ajN e;exact ⟨j,by omega,h2⟩),pz⟩
    have hsv:serves (((qm.run (s.take i)).ah n).view q):=by rw [<-hyb];exact alW.1 ajO
    obtain rfl:many=0:=adW (hone i q (by omega)) (by omega) aoq ajN hsv;have HV:=λw=>Ew y w;rw [ajO] at HV;refine cab al1 lu (HV _) ?_;intro YQ sW;refine zN 5 ?_;refine vv (v:=iV ((0+1:Nat):Int)) jh ?_;refine zN 6 ?_;refine vv (v:=iV ((n+1:Nat):Int)) jh ?_;refine zN 2 ?_;refine bQ (n+1,0+1) ?_ ⟨rfl,rfl,rfl,rfl,rfl,rfl,rfl,trivial⟩ (by first | omega | (dsimp only;omega));exact ⟨(by omega),(by omega),(λ_=>⟨n,by omega,hsv⟩),sW⟩
   refine zN 21 ?_;refine vv (v:=iV ((q+1:Nat):Int)) jh ?_;refine zN 2 ?_;refine bQ (q+1) ?_ ⟨rfl,rfl,rfl,rfl,rfl,trivial⟩ (by first | omega | (dsimp only;omega));exact ⟨(by omega),lu⟩
  refine zN 12 ?_;refine vv (v:=iV ((i+1:Nat):Int)) jh ?_;refine zN 2 ?_;refine bQ (i+1) ?_ ⟨rfl,rfl,rfl,rfl,trivial⟩ (by first | omega | (dsimp only;omega));exact ⟨(by omega),kT⟩
 refine zN 17 ?_;exact ⟨rfl,iw.low⟩
section
variable {m m':Cl} {n q:Nat} {g g':Gh} {V:Nat->bF} {P:Nat->Option fG} {U:Nat->Bool} {Lt:iq->Prop} {pl:Pl} {sh:Nat->Int×Int} {sv:List kF}
def yU (n q:Nat) (ep:Int) (evs:List Ev) (an:List iM) (i:Nat):kF:=⟨n,q,ep,evs.getD i aL,an.getD i eu,-1⟩
theorem yt {evs:List Ev} {an:List iM}: ∀ (il:List Nat) (m:Cl),m.recovered n q evs an il=
  { m with aQ:=m.aQ++il.map (yU n q ((m.ah n).bs q).ep evs an),shown:=if il=[] then m.shown else gL m.shown n q (((m.ah n).bs q).ep,(((m.ah n).bs q).evs.length:Int)) }
 | [],m=>by simp [Cl.recovered]
 | i::r,m=>by
  rw [Cl.recovered,yt r];have e: ∀ (s:Nat->Nat->Int×Int) (p:Int×Int),gL (gL s n q p) n q p=gL s n q p:=λs p=>by
   funext a b
   unfold gL
   split<;>rfl
  unfold Cl.tell;dsimp only;rw [if_neg (by simp: ¬ i::r=[]),List.map_cons,List.append_assoc]
  congr 1
  split
  ·rfl
  exact e _ _
theorem ahf {ep:Int} {evs:List Ev} {an:List iM} {q':Nat} (il:List Nat):(il.map (yU n q' ep evs an)).filter (λs=>decide (s.q=q))=if q'=q then il.map (yU n q' ep evs an) else []:=by
 by_cases e:q'=q
 ·rw [if_pos e];refine List.filter_eq_self.2 λs hs=>?_;obtain ⟨i,_,rfl⟩:=List.mem_map.1 hs;simp [yU,e]
 rw [if_neg e];refine List.filter_eq_nil_iff.2 λs hs=>?_;obtain ⟨i,_,rfl⟩:=List.mem_map.1 hs;simp [yU,e]
theorem QK {G:List Ev} {ep:Int} (hg:good G): ∀ (d F:Nat) {sv:List kF},F+d=G.length->rp dP sv=some (aF (G.take F)).1->rp dP (sv++((List.range G.length).drop F).map (yU n q ep G (aF G).2.1))=some (aF G).1
 | 0,F,sv,hF,h=>by
  rw [Nat.add_zero] at hF;rw [List.drop_of_length_le (by rw [List.length_range];omega),List.map_nil,List.append_nil,h,hF,List.take_length]
 | d+1,F,sv,hF,h=>by
  have hlt:F<G.length:=by omega
  have hlr:F< (List.range G.length).length:=by rw [List.length_range];exact hlt
  rw [List.drop_eq_getElem_cons hlr,List.getElem_range,List.map_cons];rw [show sv++yU n q ep G (aF G).2.1 F::((List.range G.length).drop (F+1)).map (yU n q ep G (aF G).2.1)=(sv++[yU n q ep G (aF G).2.1 F])++((List.range G.length).drop (F+1)).map (yU n q ep G (aF G).2.1) by rw [List.append_assoc];rfl];refine QK hg d (F+1) (by omega) ?_;have hs:=nY hlt;have hg2:good (G.take F++[G[F]]):=by rw [<-hs];exact qo hg
  obtain ⟨s1,s2,s3⟩:=good_step hg2;have ha:=Qn _ rfl hg F hlt;have e1:(yU n q ep G (aF G).2.1 F).op=G[F]:=by
   show G.getD F aL=_
   rw [List.getD_eq_getElem?_getD,List.getElem?_eq_getElem hlt];rfl
  have e2:(yU n q ep G (aF G).2.1 F).ans=(iD (aF (G.take F)).1 G[F]).2.1:=by
   show (aF G).2.1.getD F eu=_
   rw [List.getD_eq_getElem?_getD,ha];rfl
  rw [Cw h (by rw [e1];exact s1) (by rw [e1,e2]),e1,hs,s3]
def QD (m:Cl) (q:Nat) (g:Gh) (n:Nat):Prop:=Inv g (vw m q) (yJ m q) (upd (CJ m) n false) (KG m q) (m.off.at q) (yK m q) (yI m q)
noncomputable def uM (n:Nat) (bs:Nat->bF) (m:Cl) (q:Nat):Cl:=if (bs q).role≠1 then m else ((m.recover n q).aW n q (eF (bs q)).1).tell n q aM eu (-1)
theorem Cg {bs:Nat->bF}: ∀ (ql:List Nat) (m:Cl),Cl.woken n bs ql m=ql.foldl (uM n bs) m
 | [],m=>rfl
 | q::r,m=>by
  rw [Cl.woken,List.foldl_cons];unfold uM
  split
  ·exact Cg r m
  exact Cg r _
structure W1 (m m':Cl) (n q':Nat):Prop where
 ah: ∃ b,m'.ah=upd m.ah n { m.ah n with bs:=upd (m.ah n).bs q' b }
 fly:m'.fly=m.fly
 off:m'.off=m.off
 sh: ∀ q,q'≠q->yK m' q=yK m q
 sv: ∀ q,q'≠q->yI m' q=yI m q
theorem JL (m:Cl) (n q':Nat): ∃ ss p,m.recover n q'={ m with aQ:=m.aQ++ss,shown:=p }/\(∀ s∈ss,s.q=q')/\ ∀ a b,b≠q'->p a b=m.shown a b:=by
 unfold Cl.recover
 split
 ·exact ⟨_,_,rfl,λs hs=>by rw [List.mem_singleton] at hs;subst hs;rfl,λa b hb=>by unfold gL;rw [if_neg (λe=>hb e.2)]⟩
 rw [yt];refine ⟨_,_,rfl,λs hs=>?_,λa b hb=>?_⟩
 ·obtain ⟨i,_,rfl⟩:=List.mem_map.1 hs;rfl
 split
 ·rfl
 unfold gL;rw [if_neg (λe=>hb e.2)]
theorem aan {ss:List kF} {q':Nat} (h: ∀ s∈ss,s.q=q') (hq:q'≠q):ss.filter (λs=>decide (s.q=q))=[]:=List.filter_eq_nil_iff.2 λs hs=>by rw [h s hs];simp [hq]
theorem DC {bs:Nat->bF} (m:Cl) (n q':Nat):W1 m (uM n bs m q') n q':=by
 unfold uM
 split
 ·exact ⟨⟨(m.ah n).bs q',by rw [aG (f:=(m.ah n).bs) rfl];exact zn⟩,rfl,rfl,λ_ _=>rfl,λ_ _=>rfl⟩
 obtain ⟨ss,p,e,h1,h2⟩:=JL m n q';rw [e];refine ⟨⟨(eF (bs q')).1,rfl⟩,rfl,rfl,λq hq=>?_,λq hq=>?_⟩
 ·show (λj=>gL p n q' _ j q)=_
  rw [Mq hq]
  funext j
  exact h2 j q (λe=>hq e.symm)
 show ((m.aQ++ss)++_).filter _=_
 rw [r9,if_neg hq,List.append_nil,List.filter_append,aan h1 hq,List.append_nil];rfl
theorem QD.far (I:QD m q g n) (hn:n<5) (hu:(m.ah n).up=true) {q':Nat} (hq:q'≠q) (W:W1 m m' n q'):QD m' q g n/\vw m' q=vw m q/\(m'.ah n).up=true/\(m'.ah n).bs q=(m.ah n).bs q/\(m'.ah n).pend=(m.ah n).pend:=by
 obtain ⟨b,hb⟩:=W.ah;have fT:({ m.ah n with bs:=upd (m.ah n).bs q' b }:Nd).view q=(m.ah n).view q:=by
  rw [gH (X:={ m.ah n with bs:=upd (m.ah n).bs q' b }) hu,gH hu];exact upd_ne (λe=>hq e.symm)
 have hvw:=nI hb fT;have hun:CJ m'=CJ m:=lD hb rfl;refine ⟨?_,hvw,by rw [hb,upd_same];exact hu,by rw [hb,upd_same];exact upd_ne (λe=>hq e.symm),by rw [hb,upd_same]⟩;unfold QD;rw [hvw,qY hb rfl,hun,W.off,W.sh q hq,W.sv q hq];exact I.xE λx hx=>by
  obtain ⟨x1,x2⟩:=hx
  rcases x2 with x2 | ⟨j,hj,x2⟩
  ·rw [W.fly] at x2;exact .inl ⟨x1,.inl x2⟩
  rw [hb] at x2;by_cases e:j=n
  ·subst e;rw [upd_same] at x2;exact .inl ⟨x1,.inr ⟨j,hj,x2⟩⟩
  rw [upd_ne e] at x2;exact .inl ⟨x1,.inr ⟨j,hj,x2⟩⟩
theorem QD.awU (I:QD m q g n) (hn:n<5) (hu:(m.ah n).up=true) (hr:((m.ah n).bs q).role=1):QD (m.recover n q) q g.all n/\n=g.o/\(m.recover n q).ah=m.ah:=by
 have hV:=Bp (q:=q) hu;have ho:n=g.o:=I.oEp hn (by rw [hV];exact .inl hr);have eP:((m.ah n).bs q).ep=g.m:=by rw [<-hV,ho];exact I.EZ
 have hev:((m.ah n).bs q).evs=g.G:=by rw [<-hV,ho];exact I.L6
 refine ⟨?_,ho,?_⟩
 ·unfold Cl.recover;by_cases c:(m.shown n q).1≠((m.ah n).bs q).ep
  ·rw [if_pos c];have ht: ¬ g.t=g.m:=λe=>by
    rcases I.JB with ⟨_,h,_⟩ | ⟨h,_⟩
    ·apply c;have h':m.shown g.o q=_:=h;rw [eP,ho,h']
    omega
   have I2:=I.Xc ht (s:=⟨n,q,g.m,aM,eu,-1⟩) rfl rfl rfl ho;unfold QD;have e1:yK (m.tell n q aM eu (-1)) q=upd (yK m q) g.o ((g.m:Int),(g.G.length:Int)):=by
    show (λj=>gL m.shown n q _ j q)=_
    rw [El,eP,hev,ho];rfl
   have e2:yI (m.tell n q aM eu (-1)) q=yI m q++[⟨n,q,g.m,aM,eu,-1⟩]:=by
    show (m.aQ++_).filter _=_
    rw [r9,if_pos rfl,eP];rfl
   rw [e1,e2];exact I2
  rw [if_neg c,yt,eP,hev];have c':(m.shown n q).1=((m.ah n).bs q).ep:=Classical.not_not.1 c
  rcases I.JB with ⟨h1,h2,h3⟩ | ⟨_,h2,_⟩
  ·have hsh:m.shown n q=((g.m:Int),(g.F:Int)):=by rw [ho];exact h2
   rw [hsh];dsimp only;rw [Int.toNat_natCast];have hrp:=QK (n:=n) (q:=q) (ep:=(g.m:Int)) I.gd (g.G.length-g.F) g.F (by omega) I.rps;have I2:=I.told h1 hrp λs hs=>by
    obtain ⟨i,_,rfl⟩:=List.mem_map.1 hs;exact ⟨rfl,ho⟩
   unfold QD;have e2:yI { m with aQ:=m.aQ++((List.range g.G.length).drop g.F).map (yU n q (g.m:Int) g.G (aF g.G).2.1),shown:=if (List.range g.G.length).drop g.F=[] then m.shown else gL m.shown n q ((g.m:Int),(g.G.length:Int)) } q=yI m q++((List.range g.G.length).drop g.F).map (yU n q (g.m:Int) g.G (aF g.G).2.1):=by
    show (m.aQ++_).filter _=_
    rw [List.filter_append,ahf,if_pos rfl];rfl
   have e1:yK { m with aQ:=m.aQ++((List.range g.G.length).drop g.F).map (yU n q (g.m:Int) g.G (aF g.G).2.1),shown:=if (List.range g.G.length).drop g.F=[] then m.shown else gL m.shown n q ((g.m:Int),(g.G.length:Int)) } q=upd (yK m q) g.o ((g.m:Int),(g.G.length:Int)):=by
    unfold yK;dsimp only
    split
    ·rename_i hnil
     have:=congrArg List.length hnil;rw [List.length_drop,List.length_range,List.length_nil] at this;refine (aG ?_).symm;rw [<-ho,hsh];have:g.F=g.G.length:=by omega
     rw [this]
    rw [El,ho]
   rw [e1,e2];exact I2
  exfalso
  have h2':(m.shown g.o q).1<g.m:=h2;rw [<-ho,c',eP] at h2';omega
 obtain ⟨ss,p,e,_,_⟩:=JL m n q;rw [e]
theorem QD.near {bs:Nat->bF} (I:QD m q g n) (hn:n<5) (hu:(m.ah n).up=true) (hp:(m.ah n).pend=none) (hb:(m.ah n).bs q=bs q) (hr:(bs q).role=1) (hw:eF (bs q)=(gU (bs q),0)) (hf:aj (gU (bs q))=0) (Zn:aj (bs q)=0):
  ∃ g',QD (uM n bs m q) q g' n/\lV g g'/\g'.m=g.m/\g'.o=n/\n=g.o/\g'.t=g'.m/\g'.F=g'.G.length:=by
 obtain ⟨I1,ho,yu⟩:=I.awU hn hu (by rw [hb];exact hr);have hV1:vw (m.recover n q) q n=bs q:=by
  unfold vw;rw [yu,gH hu];exact hb
 have aor:vw (m.recover n q) q g.o=bs q:=by rw [<-hV1];congr 1;exact ho.symm
 have eP:(bs q).ep=g.m:=by rw [<-aor];exact I1.EZ
 have hev:(bs q).evs=g.G:=by rw [<-aor];exact I1.L6
 have hgd:good (g.G++[aM]):=by have:=(dR hf).2;unfold gU at this;rw [hev] at this;exact this
 have hs:=fM Zn;unfold bg at hs;have pK:(bs q).tg=0:=by omega
 have hpn:yJ (m.recover n q) q g.all.o=none:=by
  show pq q ((m.recover n q).ah g.o).pend=none
  rw [yu,<-ho,hp];rfl
 have huf:upd (CJ (m.recover n q)) n false g.all.o=false:=by show upd _ n false g.o=false;rw [<-ho];exact upd_same _ _ _
 have hVo:vw (m.recover n q) q g.all.o=bs q:=by show vw (m.recover n q) q g.o=_;rw [<-ho];exact hV1
 have I2:=Inv.append (e:=aM) (b:=gU (bs q)) I1 hpn huf (by rw [hVo];omega) rfl hgd (by rw [hVo];rfl) (by rw [hVo];exact hr.symm) (by rw [hVo];exact pK.symm) (by show (bs q).evs++[aM]=_;rw [hev];rfl);obtain ⟨s1,s2,s3⟩:=good_step hgd;have awV:rp dP (yI (m.recover n q) q)=some (aF g.G).1:=by
  have:=I1.rps;rwa [show g.all.G.take g.all.F=g.G from List.take_length] at this
 have I3:=I2.told (Y5:=[⟨n,q,g.m,aM,eu,-1⟩]) rfl (by rw [Cw awV s1 (abA s2)];show _=some (aF (g.G++[aM])).1;rw [s3]) λs hs=>by rw [List.mem_singleton] at hs;subst hs;exact ⟨rfl,ho⟩
 refine ⟨(g.all.app aM).all,?_,⟨Nat.le_refl _,λ_ _=>rfl,by show (g.G++[aM]).length<=_;simp⟩,rfl,ho.symm,ho,rfl,rfl⟩;unfold uM;rw [if_neg (λh=>h hr),hw];have dN:(((m.recover n q).aW n q (gU (bs q))).tell n q aM eu (-1)).ah=upd (m.recover n q).ah n (((m.recover n q).ah n).aW q (gU (bs q))):=rfl;have hur:((m.recover n q).ah n).up=true:=by rw [yu];exact hu
 have fT:(((m.recover n q).ah n).aW q (gU (bs q))).view q=gU (bs q):=by rw [gH (X:=((m.recover n q).ah n).aW q _) hur];exact upd_same _ _ _
 have e0:(((m.recover n q).aW n q (gU (bs q))).ah n).bs q=gU (bs q):=by
  show ((upd (m.recover n q).ah n _) n).bs q=_
  rw [upd_same];exact upd_same _ _ _
 unfold QD;have e1:yK (((m.recover n q).aW n q (gU (bs q))).tell n q aM eu (-1)) q=upd (yK (m.recover n q) q) g.o ((g.m:Int),((g.G++[aM]).length:Int)):=by
  show (λj=>gL (m.recover n q).shown n q _ j q)=_
  rw [El,e0]
  show upd _ n ((bs q).ep,((((bs q).evs++[aM]).length:Nat):Int))=_
  rw [eP,hev,ho];rfl
 have e2:yI (((m.recover n q).aW n q (gU (bs q))).tell n q aM eu (-1)) q=yI (m.recover n q) q++[⟨n,q,g.m,aM,eu,-1⟩]:=by
  show ((m.recover n q).aQ++_).filter _=_
  rw [r9,if_pos rfl,e0]
  show _++[(⟨n,q,(bs q).ep,aM,eu,-1⟩:kF)]=_
  rw [eP];rfl
 have e3:vw (((m.recover n q).aW n q (gU (bs q))).tell n q aM eu (-1)) q=upd (vw (m.recover n q) q) g.all.o (gU (bs q)):=by
  rw [sK dN,fT]
  show upd _ n _=upd _ g.o _
  rw [<-ho]
 rw [e1,e2,e3,qY dN rfl,lD dN rfl];exact I3.xE λx hx=>by
  obtain ⟨x1,x2⟩:=hx
  rcases x2 with x2 | ⟨j,hj,x2⟩
  ·exact .inl ⟨x1,.inl x2⟩
  rw [dN] at x2;by_cases e:j=n
  ·subst e;rw [upd_same] at x2;exact .inl ⟨x1,.inr ⟨j,hj,x2⟩⟩
  rw [upd_ne e] at x2;exact .inl ⟨x1,.inr ⟨j,hj,x2⟩⟩
theorem QL {bs:Nat->bF} (hn:n<5): ∀ (ql:List Nat) {m:Cl},QD m q g n->(m.ah n).up=true->q ∉ ql->QD (ql.foldl (uM n bs) m) q g n/\vw (ql.foldl (uM n bs) m) q=vw m q
 | [],m,I,_,_=>⟨I,rfl⟩
 | q'::r,m,I,hu,hq=>by
  rw [List.mem_cons,not_or] at hq;obtain ⟨I1,e1,h1,_,_⟩:=I.far hn hu (λe=>hq.1 e.symm) (DC (bs:=bs) m n q');obtain ⟨I2,e2⟩:=QL hn r I1 h1 hq.2;exact ⟨I2,e2.trans e1⟩
theorem ML {bs:Nat->bF} (hn:n<5) (hr:(bs q).role=1) (hw:eF (bs q)=(gU (bs q),0)) (hf:aj (gU (bs q))=0) (Zn:aj (bs q)=0): ∀ (ql:List Nat) {m:Cl},QD m q g n->(m.ah n).up=true->(m.ah n).pend=none->(m.ah n).bs q=bs q->q∈ql->ql.Nodup->
  ∃ g',QD (ql.foldl (uM n bs) m) q g' n/\lV g g'/\g'.m=g.m/\g'.o=n/\n=g.o/\g'.t=g'.m/\g'.F=g'.G.length
 | [],m,_,_,_,_,hq,_=>by simp at hq
 | q'::r,m,I,hu,hp,hb,hq,hnd=>by
  obtain ⟨h1,h2⟩:=List.nodup_cons.1 hnd;rw [List.foldl_cons];by_cases e:q'=q
  ·subst e;obtain ⟨g',I1,N1,k1,k2,k3,k4,k5⟩:=I.near hn hu hp hb hr hw hf Zn;obtain ⟨b,hW⟩:=(DC (bs:=bs) m n q').ah;have hu1:((uM n bs m q').ah n).up=true:=by rw [hW,upd_same];exact hu
   obtain ⟨I2,_⟩:=QL hn r I1 hu1 h1;exact ⟨g',I2,N1,k1,k2,k3,k4,k5⟩
  have hq':q∈r:=by
   rcases List.mem_cons.1 hq with h | h
   ·exact absurd h.symm e
   exact h
  obtain ⟨I1,e1,u1,b1,p1⟩:=I.far hn hu e (DC (bs:=bs) m n q');exact ML hn hr hw hf Zn r I1 u1 (p1.trans hp) (b1.trans hb) hq' h2
theorem I5 {s:Int} {f:Nat->bF}: ∀ (ql:List Nat) {d d':List UInt8},dY s f ql d=some d'->d'.length<=d.length+46*ql.length
 | [],d,d',h=>by cases h;simp
 | q::r,d,d',h=>by
  rw [dY] at h;rw [List.length_cons]
  split at h
  ·have:=I5 r h;omega
  split at h
  ·cases h
  split at h
  ·cases h
  rename_i d2 hw
  obtain ⟨w1,_,_⟩:=qX hw;have h1:=I5 r h;have h2:=Dr [fq 2 q (f q).ep 0 aM];rw [w1,List.length_append] at h1;simp only [List.length_cons,List.length_nil] at h2;omega
theorem aao {T S D K:Nat} (I:QI m q g) (hB:fB m T S D K) (hn:n<5) (hq:q<4):(∃ g',QI (m.start n) q g'/\lV g g'/\Bq q g g' m (m.start n))/\ ∀ j,((m.start n).ah j).data.length<=(m.ah j).data.length+184:=by
 rcases F4 (hB.kV n hn) with ⟨_,e⟩ | ⟨hu,rs,t,f,hd,e | ⟨ws,e1,e2,e3,W,e5,e6,e7⟩⟩
 ·rw [e];exact ⟨⟨g,I,.refl g,λ_ h=>h⟩,λ_=>Nat.le_add_right _ _⟩
 ·rw [e];exact ⟨⟨g,I,.refl g,λ_ h=>h⟩,λ_=>Nat.le_add_right _ _⟩
 have hin:q∈[0,1,2,3]:=by
  have h:q=0\/q=1\/q=2\/q=3:=by omega
  rcases h with rfl | rfl | rfl | rfl<;>decide
 have hvb:=hd.rd.2.2 q hq;have hVn:vw m q n=f q:=hd.view hu hq;obtain ⟨Zn,hr2⟩:=hd.mY q hq;obtain ⟨m1,hm1⟩: ∃ m1,m1=m.put n { (m.ah n).blank with up:=true,data:=bC (rs++ws),syn:=(bC (rs++ws)).length,bs:=bq (m.ah n).data (m.ah n).syn }:=⟨_,rfl⟩;have yu:m1.ah=upd m.ah n { (m.ah n).blank with up:=true,data:=bC (rs++ws),syn:=(bC (rs++ws)).length,bs:=bq (m.ah n).data (m.ah n).syn }:=by rw [hm1];rfl
 have alX:({ (m.ah n).blank with up:=true,data:=bC (rs++ws),syn:=(bC (rs++ws)).length,bs:=bq (m.ah n).data (m.ah n).syn }:Nd).view q=(m.ah n).view q:=by
  rw [gH rfl];unfold Nd.view;rw [if_neg (by rw [hu];simp)]
 have ajP:=nI yu alX;have awW:yJ m1 q=yJ m q:=qY yu (by rw [hd.sJ];rfl);have awX:upd (CJ m1) n false=CJ m:=by rw [SI yu,rX];exact aG hu
 have I1:QD m1 q g n:=by
  unfold QD;rw [ajP,awW,awX];have hoff:m1.off=m.off:=by rw [hm1];rfl
  have hsh:yK m1 q=yK m q:=by rw [hm1];rfl
  have hsv:yI m1 q=yI m q:=by rw [hm1];rfl
  rw [hoff,hsh,hsv];exact I.xE (vP yu (λx hx=>by cases hx) hn (by rw [hm1];rfl))
 have hu1:(m1.ah n).up=true:=by rw [yu,upd_same]
 have hp1:(m1.ah n).pend=none:=by rw [yu,upd_same];rfl
 have hb1:(m1.ah n).bs q=bq (m.ah n).data (m.ah n).syn q:=by rw [yu,upd_same]
 have eX:(m.start n).ah=upd m.ah n { (m.ah n).blank with up:=true,data:=bC (rs++ws),syn:=(bC (rs++ws)).length,bs:=λq=>if q∈[0,1,2,3]/\(bq (m.ah n).data (m.ah n).syn q).role=1 then gU (bq (m.ah n).data (m.ah n).syn q) else bq (m.ah n).data (m.ah n).syn q }:=by
  rw [W.ah,bI];exact rX _ _ _ _
 have aos:CJ (m.start n)=upd (upd (CJ (m.start n)) n false) n true:=by
  rw [rX];refine (aG ?_).symm;unfold CJ;rw [eX,upd_same]
 rw [<-hm1,Cg] at e1;refine ⟨?_,λj=>?_⟩
 ·by_cases hr:(bq (m.ah n).data (m.ah n).syn q).role=1
  ·have hf1:aj (gU (bq (m.ah n).data (m.ah n).syn q))=0:=by rw [hvb] at hr⊢;exact e7 q hq hr
   have hw1:eF (bq (m.ah n).data (m.ah n).syn q)=(gU (bq (m.ah n).data (m.ah n).syn q),0):=by
    unfold eF;rw [if_neg (λh=>h (by rw [hvb];exact Zn)),if_neg (by omega),if_neg (λh=>h hf1)];rfl
   obtain ⟨g',I2,N2,k1,k2,k3,k4,k5⟩:=ML hn hr hw1 hf1 (by rw [hvb];exact Zn) [0,1,2,3] I1 hu1 hp1 hb1 hin (by decide);rw [<-e1] at I2;have I3:=Inv.up I2 n λ_=>⟨k4,k5⟩;refine ⟨g',?_,N2,λ_ h=>?_⟩
   ·unfold QI;rw [aos];exact I3
   rw [<-k3,hVn,<-hvb] at h;omega
  have aap:QD (m.start n) q g n/\vw (m.start n) q=vw m1 q:=by
   rw [e1];have key: ∀ (ql:List Nat) {m':Cl},QD m' q g n->(m'.ah n).up=true->QD (ql.foldl (uM n (bq (m.ah n).data (m.ah n).syn)) m') q g n/\vw (ql.foldl (uM n (bq (m.ah n).data (m.ah n).syn)) m') q=vw m' q:=by
    intro ql
    induction ql with
    | nil=>intro m' I' _;exact ⟨I',rfl⟩
    | cons q' r ih=>
     intro m' I' hu';rw [List.foldl_cons];by_cases e:q'=q
     ·subst e;have:uM n (bq (m.ah n).data (m.ah n).syn) m' q'=m':=if_pos hr;rw [this];exact ih I' hu'
     obtain ⟨I3,v3,u3,_,_⟩:=I'.far hn hu' e (DC (bs:=bq (m.ah n).data (m.ah n).syn) m' n q');obtain ⟨I4,v4⟩:=ih I3 u3;exact ⟨I4,v4.trans v3⟩
   exact key _ I1 hu1
  have hst:n=g.o->g.t=g.m/\g.F=g.G.length:=λho=>by
   have h3:(vw (m.start n) q g.o).role=3:=by
    rw [aap.2,ajP,<-ho,hVn];have:=I.arl;rw [<-ho,hVn] at this;rw [hvb] at hr;omega
   have hF:=aap.1.slF h3;refine ⟨?_,hF⟩
   rcases aap.1.JB with h | ⟨_,_,_,h,_⟩
   ·exact h.1
   omega
  have I3:=Inv.up aap.1 n hst;refine ⟨g,?_,.refl g,λ_ h=>by rw [aap.2,ajP];exact h⟩;unfold QI;rw [aos];exact I3
 rw [eX];by_cases e:j=n
 ·subst e;rw [upd_same]
  show (bC (rs++ws)).length<=_
  have hww:=I5 [0,1,2,3] e3;rw [hd.rd.1] at hww;dsimp only at hww;have:=congrArg List.length hd.data;rw [List.length_append] at this;simp only [List.length_cons,List.length_nil] at hww;omega
 rw [upd_ne e];exact Nat.le_add_right _ _
end
section
variable {m m' m2:Cl} {n q k:Nat} {g g' g2:Gh}
theorem adX {T S D K:Nat} (hB:fB m T S D K) (hn:n<5) {j:Nat} (hj:j≠n):(m.step n).ah j=m.ah j:=by
 cases hu:(m.ah n).up with
 | false=>rw [Af hu]
 | true=>
  obtain ⟨rs,us,hU⟩:=(hB.kV n hn).Mg hu
  cases hp:(m.ah n).pend with
  | some p=>
   obtain ⟨h1,h2,h3⟩:=hU.SF p hp;obtain ⟨_,hf⟩:=nZ hU.tape hU.mY h2 h3;obtain ⟨Y,y1,_⟩:=SH rfl hu hp h3 hf h2;rw [y1,upd_ne hj]
  | none=>
   have R:=QC hu ⟨us,hU⟩ λl hl=>Dq (hB.l9 n hn l hl);rw [tJ hu hp]
   split
   ·show upd (m.more n).ah n _ j=_
    rw [upd_ne hj];exact R.zZ j hj
   exact R.zZ j hj
theorem MN (m:Cl) (l:iq) (j:Nat):((m.come l).ah j).data=(m.ah j).data:=by
 unfold Cl.come
 split
 ·rfl
 split
 ·split<;>rfl
 split
 ·show ((upd m.ah l.tg.toNat _) j).data=_
  by_cases e:j=l.tg.toNat
  ·rw [e,upd_same]
  rw [upd_ne e]
 rfl
theorem JM: ∀ (ls:List iq) (m:Cl) (j:Nat),((ls.foldl Cl.come m).ah j).data=(m.ah j).data
 | [],_,_=>rfl
 | l::ls,m,j=>(JM ls (m.come l) j).trans (MN m l j)
theorem aaq (m:Cl) (at_:Nat) (c s:Bool) (j:Nat):((m.pick at_ c s).ah j).data=(m.ah j).data:=by
 unfold Cl.pick
 split
 ·rfl
 dsimp only
 split
 ·rw [MN]
  split<;>rfl
 split<;>rfl
structure Later (q:Nat) (g g':Gh) (m m':Cl):Prop where
 mle:g.m<=g'.m
 own: ∀ k,k<=g.m->g'.own k=g.own k
 iE:Bq q g g' m m'
theorem Later.refl:Later q g g m m:=⟨Nat.le_refl _,λ_ _=>rfl,λ_ h=>h⟩
theorem Later.trans (h:Later q g g' m m') (h':Later q g' g2 m' m2):Later q g g2 m m2:=by
 refine ⟨Nat.le_trans h.mle h'.mle,λk hk=>(h'.own k (Nat.le_trans hk h.mle)).trans (h.own k hk),λe h3=>?_⟩;have h1:=h.mle;have h2:=h'.mle;have e1:g'.m=g.m:=by omega
 have eo:g'.o=g.o:=by unfold Gh.o;rw [e1];exact h.own _ (Nat.le_refl _)
 have:=h'.iE (by omega) (by rw [eo];exact h.iE e1 h3);rwa [eo] at this
theorem lV.later (h:lV g g') (h':Bq q g g' m m'):Later q g g' m m':=⟨h.m,h.own,h'⟩
structure LW (m:Cl) (q:Nat) (g:Gh) (k:Nat):Prop where
 qi:QI m q g
 ai0:g.G.length<=k
 data: ∀ n,n<5->(m.ah n).data.length<=184*k
theorem ahg {a:Ac} (h:LW m q g k) (hB:Bs m k) (ha:Pm a) (h1:a.kd≠1) (hq:q<4) (hk:k<=540): ∃ g',LW (m.act a) q g' (k+1)/\Later q g g' m (m.act a):=by
 obtain ⟨I,hG,hD⟩:=h;obtain ⟨a1,a2,a3,a4,a5,a6⟩:=ha;have hn:a.nd.toNat<5:=by omega
 have hqu:a.qu.toNat<4:=by omega
 have fin: ∀ {m':Cl} {g':Gh},QI m' q g'->lV g g'->Bq q g g' m m'->(∀ n,n<5->(m'.ah n).data.length<=(m.ah n).data.length+184)-> ∃ g',LW m' q g' (k+1)/\Later q g g' m m':=λ{m' g'} I' N s hd=>
  ⟨g',⟨I',by have:=N.ai0;omega,λn hn=>by have:=hd n hn;have:=hD n hn;omega⟩,N.later s⟩
 unfold Cl.act;rw [if_neg h1]
 split
 ·obtain ⟨I2,e2⟩:=adk (l:=Ou a.nd a.qu.toNat a.op m.calls) (c:=m.calls+1) I rfl;exact fin I2 (.refl g) (λ_ h=>by rw [e2];exact h) λn _=>Nat.le_add_right _ _
 split
 ·obtain ⟨⟨g',I2,N2,s2⟩,d2⟩:=adh I hB hn (by have:=hD _ hn;omega) (by omega);refine fin I2 N2 s2 λj hj=>?_;by_cases e:j=a.nd.toNat
  ·rw [e];exact d2
  rw [adX hB hn e];exact Nat.le_add_right _ _
 split
 ·obtain ⟨I2,e2⟩:=adi (at_:=a.at_.toNat) (c:=decide (a.kd≠5)) (s:=decide (a.kd=6)) I hB.uH hq;exact fin I2 (.refl g) (λ_ h=>by rw [e2];exact h) λn _=>by rw [aaq];exact Nat.le_add_right _ _
 split
 ·obtain ⟨I2,e2⟩:=agW I hB.uH hq;refine fin I2 (.refl g) (λ_ h=>by rw [e2];exact h) λn _=>?_;unfold Cl.all;rw [JM];exact Nat.le_add_right _ _
 split
 ·obtain ⟨⟨g',I2,N2,s2⟩,d2⟩:=Zy (keep:=a.kp) I hB hn hq a5.1;exact fin I2 N2 s2 λj _=>Nat.le_add_right_of_le (d2 j)
 split
 ·obtain ⟨⟨g',I2,N2,s2⟩,d2⟩:=aao I hB hn hq;exact fin I2 N2 s2 λj _=>d2 j
 obtain ⟨I2,s2,d2⟩:=adl (tg:=a.nd) I hB hqu hq;exact fin I2 (.refl g) (λ_ h=>s2 h) λj _=>by rw [d2 j];exact Nat.le_add_right _ _
theorem Xp (hq:q<4): ∀ (l:List Ac) {m:Cl} {g:Gh} {k:Nat},LW m q g k->Bs m k->(∀ a∈l,Pm a/\a.kd≠1)->k+l.length<=540-> ∃ g',LW (m.run l) q g' (k+l.length)/\Bs (m.run l) (k+l.length)/\Later q g g' m (m.run l)
 | [],m,g,k,h,hB,_,_=>⟨g,h,hB,.refl⟩
 | a::l,m,g,k,h,hB,ha,hk=>by
  rw [List.length_cons] at hk;obtain ⟨a1,a2⟩:=ha a (by simp);obtain ⟨g1,h1,r1⟩:=ahg h hB a1 a2 hq (by omega);obtain ⟨g2,h2,b2,r2⟩:=Xp hq l h1 (Ml hB a1 (by omega)) (λx hx=>ha x (by simp [hx])) (by omega);rw [List.length_cons,show k+(l.length+1)=k+1+l.length by omega];exact ⟨g2,h2,b2,r1.trans r2⟩
end
def aar (n q:Nat):Ac:=⟨1,n,q,0,0,0,0,0,0,0,0⟩
theorem ah8 {n q:Nat} (hn:n<5) (hq:q<4):Pm (aar n q):=⟨by show (1:Int)<=1/\(1:Int)<=10;omega,by show 0<=(n:Int)/\(n:Int)<=4;omega,by show 0<=(q:Int)/\(q:Int)<=3;omega,by show (0:Int)<=0/\(0:Int)<=1048576;omega,by show (0:Int)<=0/\(0:Int)<=100000;omega,λh=>absurd (show (1:Int)=2 from h) (by decide)⟩
theorem Xq {m:Cl} {n q:Nat} {d:Dir} {x:List UInt8} (hu:(m.ah n).up=true) (hp:(m.ah n).pend=none) (hd:qL m.off q n=(d,0)) (hb:iL ((m.ah n).bs q) 1=(⟨1,1,0,0,0,[]⟩,0)) (hw:dZ (m.ah n).data (m.ah n).syn [fq 1 q 1 0 aL]=some x):
  m.make n q={ m.put n { m.ah n with data:=x,syn:=x.length,bs:=upd (m.ah n).bs q ⟨1,1,0,0,0,[]⟩ } with off:=d,shown:=gL m.shown n q (1,0) }:=by
 obtain ⟨X,hX⟩: ∃ X,m.ah n=X:=⟨_,rfl⟩;rw [hX] at hu hp hb hw⊢;unfold Cl.make Nd.write;rw [hX,hd,hb,hw,if_neg (by rw [hu,hp];simp),if_neg (by simp)];rfl
def Bu (q:Nat):List UInt8:=bC [fq 1 q 1 0 aL]
def Bv (q:Nat):Nd:={ nd0 with data:=Bu q,syn:=(Bu q).length,bs:=upd (λ_=>bG) q ⟨1,1,0,0,0,[]⟩ }
def Ur:Cl:={ qm with ah:=upd qm.ah 0 (Bv 0),off:=⟨⟨0,1⟩,nowhere,nowhere,nowhere⟩,shown:=gL qm.shown 0 0 (1,0) }
def Ar:Cl:={ qm with ah:=upd (upd qm.ah 0 (Bv 0)) 1 (Bv 1),off:=⟨⟨0,1⟩,⟨1,1⟩,nowhere,nowhere⟩,shown:=gL (gL qm.shown 0 0 (1,0)) 1 1 (1,0) }
theorem ah9 {q:Nat} (hq:q<4):dZ nd0.data nd0.syn [fq 1 q 1 0 aL]=some (Bu q):=by
 have:=Ca (rs:=[fq 1 q 1 0 aL]) (l:=[]) (s:=0) (λr hr=>by rw [List.mem_singleton] at hr;subst hr;exact wu (by omega) hq (by omega) (by omega) (by decide)) (by omega) (by simp) (by simp);rw [List.nil_append] at this;exact this
theorem dmk {d:Dir} {q n:Nat} (hd: ∀ k,k<4->wV (d.at k)) (hq:q<4) (hn:n<5) (ha:d.at q=nowhere):qL d q n=(d.set q ⟨n,1⟩,0):=by
 unfold qL;rw [MQ (Fv hd) (by omega)];dsimp only;rw [if_neg (by simp),if_neg (by omega),if_neg (by rw [Int.toNat_natCast];exact λh=>h ha),Int.toNat_natCast]
theorem Ta:qm.act (aar 0 0)=Ur:=by
 show qm.make 0 0=_
 rw [Xq (d:=⟨⟨0,1⟩,nowhere,nowhere,nowhere⟩) (x:=Bu 0) rfl rfl (dmk (d:=⟨nowhere,nowhere,nowhere,nowhere⟩) (q:=0) (n:=0) (λk hk=>by
  have h:k=0\/k=1\/k=2\/k=3:=by omega
  rcases h with rfl | rfl | rfl | rfl<;>exact .inl ⟨rfl,rfl⟩) (by omega) (by omega) rfl) (Ng (q:=0) Ni rfl (by decide) (by omega)).1 (ah9 (by omega))]
 rfl
theorem abM:Ur.act (aar 1 1)=Ar:=by
 show Ur.make 1 1=_
 rw [Xq (d:=⟨⟨0,1⟩,⟨1,1⟩,nowhere,nowhere⟩) (x:=Bu 1) rfl rfl (dmk (d:=⟨⟨0,1⟩,nowhere,nowhere,nowhere⟩) (q:=1) (n:=1) (λk hk=>by
  have h:k=0\/k=1\/k=2\/k=3:=by omega
  rcases h with rfl | rfl | rfl | rfl<;>first | exact .inl ⟨rfl,rfl⟩ | exact .inr ⟨by decide,by decide,by decide,by decide⟩) (by omega) (by omega) rfl) (Ng (q:=1) Ni rfl (by decide) (by omega)).1 (ah9 (by omega))]
 rfl
def g0 (q:Nat):Gh:=⟨1,λ_=>q,λ_=>0,[],0,1⟩
theorem aqW {q:Nat} (hq:q<2):LW Ar q (g0 q) 2:=by
 have hV: ∀ n,vw Ar q n=if n=q then ⟨1,1,0,0,0,[]⟩ else bG:=λn=>by
  have hup:(Ar.ah n).up=true:=by
   show (upd (upd qm.ah 0 (Bv 0)) 1 (Bv 1) n).up=true
   unfold upd
   split
   ·rfl
   split<;>rfl
  rw [Bp hup]
  show (upd (upd qm.ah 0 (Bv 0)) 1 (Bv 1) n).bs q=_
  have h:q=0\/q=1:=by omega
  rcases h with rfl | rfl
  ·by_cases e1:n=1
   ·subst e1;rfl
   by_cases e0:n=0
   ·subst e0;rfl
   rw [upd_ne e1,upd_ne e0,if_neg e0];rfl
  by_cases e1:n=1
  ·subst e1;rfl
  by_cases e0:n=0
  ·subst e0;rfl
  rw [upd_ne e1,upd_ne e0,if_neg e1];rfl
 have hP: ∀ n,yJ Ar q n=none:=λn=>by
  unfold yJ;have:(Ar.ah n).pend=none:=by
   show (upd (upd qm.ah 0 (Bv 0)) 1 (Bv 1) n).pend=none
   unfold upd
   split
   ·rfl
   split<;>rfl
  rw [this];rfl
 have hI: ∀ n,(Ar.ah n).inbox=[]:=λn=>by
  show (upd (upd qm.ah 0 (Bv 0)) 1 (Bv 1) n).inbox=[]
  unfold upd
  split
  ·rfl
  split<;>rfl
 have hL: ∀ l,¬ KG Ar q l:=λl h=>by
  rcases h.2 with h | ⟨j,_,h⟩
  ·cases h
  rw [hI j] at h;cases h
 have hoff:Ar.off.at q=⟨q,1⟩:=by
  have h:q=0\/q=1:=by omega
  rcases h with rfl | rfl<;>rfl
 have hsh: ∀ n,yK Ar q n=if n=q then (1,0) else (0,0):=λn=>by
  show gL (gL qm.shown 0 0 (1,0)) 1 1 (1,0) n q=_
  have h:q=0\/q=1:=by omega
  rcases h with rfl | rfl
  ·unfold gL;rw [if_neg (by omega)];by_cases e:n=0
   ·rw [if_pos ⟨e,rfl⟩,if_pos e]
   rw [if_neg (λh=>e h.1),if_neg e];rfl
  unfold gL;by_cases e:n=1
  ·rw [if_pos ⟨e,rfl⟩,if_pos e]
  rw [if_neg (λh=>e h.1),if_neg e,if_neg (by omega)];rfl
 have ho:(g0 q).o=q:=rfl;have hVo:vw Ar q (g0 q).o=⟨1,1,0,0,0,[]⟩:=by rw [hV,ho,if_pos rfl]
 have hm:(g0 q).m=1:=rfl;refine ⟨⟨Nat.le_refl _,λ_ _ _=>by show q<5;omega,λk h1 h2=>by rw [hm] at h2;omega,⟨1,hoff,Nat.le_refl _,.inl rfl⟩,by rw [hVo];rfl,by rw [hVo];rfl,by rw [hVo];exact .inl rfl,λh=>by rw [hVo] at h;exact absurd rfl h,vM,λn hn hne=>?_,λk h1 h2=>?_,λk h1 h2=>by rw [hm] at h2;omega,λl hl=>absurd hl (hL l),λn _ p hp=>(by rw [hP] at hp;cases hp),.inl ⟨rfl,?_,Nat.zero_le _⟩,λ_=>rfl,λ_=>rfl,λn _ hne=>?_,?_,⟨λs hs=>(by cases hs),λi a b ha=>(by cases ha),λs hs=>(by cases hs),λ_=>rfl⟩⟩,Nat.zero_le _,λn hn=>?_⟩
 ·rw [ho] at hne;rw [hV,if_neg hne];exact .inl ⟨rfl,by show (0:Int)<=0;omega,by show (0:Int)<1;omega⟩
 ·rw [hm] at h2;have:k=1:=by omega
  subst this
  show (1:Int)<=(vw Ar q q).ep
  rw [hV,if_pos rfl]
  decide
 ·rw [hsh,ho,if_pos rfl];rfl
 ·rw [ho] at hne;rw [hsh,if_neg hne]
  show (0:Int)<1
  omega
 ·show rp dP []=some (aF (List.take 0 [])).1
  rw [List.take_nil,zI (l:=[]) (by simp) (show gP dP [] []=some (dP,[]) from rfl)];rfl
 have h1: ∀ q,(Bu q).length<=46:=λq=>by have:=Dr [fq 1 q 1 0 aL];simpa [Bu] using this
 show (upd (upd qm.ah 0 (Bv 0)) 1 (Bv 1) n).data.length<=_
 unfold upd
 split
 ·have:=h1 1;show (Bu 1).length<=_;omega
 split
 ·have:=h1 0;show (Bu 0).length<=_;omega
 show 0<=_;omega
theorem aqX:Bs Ar 2:=by
 rw [<-abM,<-Ta];exact Ml (Ml anf (ah8 (by omega) (by omega)) (by omega)) (ah8 (by omega) (by omega)) (by omega)
theorem Au {n q k p i b he hn:Int} (h1:0<=n/\n<3) (h2:0<=q/\q<2) (hk:(k=1/\0<=p/\p<2/\0<=i/\i<24/\0<=b/\b<1000/\he=0/\hn=0)\/(k=2/\p=0/\i=0/\b=0/\he=0/\hn=0)\/(k=3/\p=0/\i=0/\b=0/\0<=he/\he<3/\0<=hn/\hn<6)):dK ⟨2,n,q,0,0,k,p,i,b,he,hn⟩=0:=by
 rcases hk with ⟨rfl,h3,h4,h5,h6,h7,h8,rfl,rfl⟩ | ⟨rfl,rfl,rfl,rfl,rfl,rfl⟩ | ⟨rfl,rfl,rfl,rfl,h3,h4,h5,h6⟩
 all_goals
  simp [dK,bM,Lp,Ac.get,Ac.ints,fin,xY,zeros];omega
theorem ahh {k a b c:Int} (n q:Int) (h1:0<=n/\n<3) (h2:0<=q/\q<2):dK ⟨2,n,q,0,0,if (mh k a b c).kind=4 then 2 else (mh k a b c).kind,(mh k a b c).producer,(mh k a b c).id,(mh k a b c).body,(mh k a b c).aN,(mh k a b c).hno⟩=0:=by
 have p1:=oH (n:=a) (m:=2) (by decide);have p2:=oH (n:=b) (m:=24) (by decide);have p3:=oH (n:=c) (m:=1000) (by decide);have p4:=oH (n:=a) (m:=3) (by decide);have p5:=oH (n:=b) (m:=6) (by decide);unfold mh
 split
 ·exact Au h1 h2 (.inl ⟨rfl,p1.1,p1.2,p2.1,p2.2,p3.1,p3.2,rfl,rfl⟩)
 split
 ·exact Au h1 h2 (.inr (.inl ⟨rfl,rfl,rfl,rfl,rfl,rfl⟩))
 split
 ·exact Au h1 h2 (.inr (.inr ⟨rfl,rfl,rfl,rfl,p4.1,p4.2,p5.1,p5.2⟩))
 exact Au h1 h2 (.inr (.inl ⟨rfl,rfl,rfl,rfl,rfl,rfl⟩))
theorem Tc (g:Gr) (cr:Bool):dK (gB g cr)=0/\(gB g cr).kd≠1:=by
 have p1:=oH (n:=g.a) (m:=3) (by decide);have p2:=oH (n:=g.b) (m:=2) (by decide);have p3:=oH (n:=g.c) (m:=20) (by decide);have p4:=oH (n:=g.c) (m:=120) (by decide);unfold gB
 split
 ·exact ⟨ahh _ _ p1 p2,by unfold Uq;dsimp only;omega⟩
 repeat' split
 all_goals
  refine ⟨?_,by dsimp only;omega⟩;simp [dK,bM,Lp,Ac.get,Ac.ints,fin,xY,zeros]
  try omega
theorem adY: ∀ a∈mks,dK a=0:=by
 intro a ha;simp only [mks,List.mem_cons,List.not_mem_nil,or_false] at ha
 rcases ha with rfl | rfl<;>rfl
theorem R6 (gs:List Gr) (m:Nat) (cr:Bool): ∀ a∈fu gs m cr,dK a=0:=by
 intro a ha
 rcases List.mem_append.1 ha with h | h
 ·exact adY a h
 obtain ⟨g,_,rfl⟩:=List.mem_map.1 h;exact (Tc g cr).1
theorem aas (gs:List Gr) (m:Nat) (cr:Bool):(fu gs m cr).length<=2+m:=by
 unfold fu mks;simp;omega
theorem VK {gs:List Gr} {m:Nat} {cr:Bool} (hm:m<=500) (i:Nat):qm.run ((fu gs m cr).take i)=qm\/qm.run ((fu gs m cr).take i)=Ur\/ ∀ q,q<2-> ∃ g k,LW (qm.run ((fu gs m cr).take i)) q g k/\Bs (qm.run ((fu gs m cr).take i)) k:=by
 match i with
 | 0=>exact .inl rfl
 | 1=>exact .inr (.inl Ta)
 | i+2=>
  refine .inr (.inr λq hq=>?_);have e:qm.run ((fu gs m cr).take (i+2))=Ar.run (((gs.take m).map (gB · cr)).take i):=by
   show Cl.run ((qm.act (aar 0 0)).act (aar 1 1)) (((gs.take m).map (gB · cr)).take i)=_
   rw [Ta,abM]
  rw [e];obtain ⟨g',h1,h2,_⟩:=Xp (by omega) (((gs.take m).map (gB · cr)).take i) (aqW hq) aqX (λa ha=>by
   obtain ⟨g,_,rfl⟩:=List.mem_map.1 (List.mem_of_mem_take ha);exact ⟨ahJ (Tc g cr).1,(Tc g cr).2⟩) (by rw [List.length_take,List.length_map,List.length_take];omega)
  exact ⟨g',_,h1,h2⟩
theorem QM {q:Nat} (h:serves (nd0.view q)):False:=by
 have:nd0.view q=bG:=rfl;rw [this] at h
 rcases h with h | h<;>cases h
theorem Xr {n q:Nat} (hn:n≠0) (h:serves ((Ur.ah n).view q)):False:=by
 have:Ur.ah n=nd0:=upd_ne hn;rw [this] at h;exact QM h
theorem alY {gs:List Gr} {s:List Ac} (hs:s=fu gs 60 true) (i q:Nat) (hq:q<2):ajM (qm.run (s.take i)) q:=by
 subst hs;intro n n' hn hn' h h'
 rcases VK (gs:=gs) (m:=60) (cr:=true) (by decide) i with e | e | h1
 ·rw [e] at h;exact (QM h).elim
 ·rw [e] at h h';by_cases e1:n=0
  ·by_cases e2:n'=0
   ·rw [e1,e2]
   exact (Xr e2 h').elim
  exact (Xr e1 h).elim
 obtain ⟨g,k,h2,_⟩:=h1 q hq;have I:=h2.qi;exact (Inv.who I hn h).trans (Inv.who I hn' h').symm
theorem R7 (W:World) (hu:Uk W.heap.size W) (args:Array Value) (h:dQ (Te Tryz.prog W) args.toList Tryz.f3.params.toList):
  Calls Tryz.prog 3 args W λe W'=>e= .returned (.bool true)/\Below W.heap.size W W':=by
 rw [Tryz.params3] at h;obtain ⟨v,l1,hv,h1,h0⟩:=dQ.xQ h;have h4:=dQ.vR h0;subst h4;obtain rfl:args= #[v]:=by cases args;simp_all
 obtain ⟨A,c,gs,rfl,hr,hg⟩:=aal h1;exact aam rfl hg (R6 _ _ _) (by have:=aas gs 60 true;omega) hu hr (alY rfl)
end
section
open ChangeShapes WideShapes ChangeAt RowKit
theorem awY:Tryz.prog.globalNamed "berthshift/cluster.unknown" =some 1:=by kernel_rfl
theorem adZ:(Tryz.prog.globals[1]?).map (·.type)=some 30:=by kernel_rfl
theorem Xt {W:World} {nm:String} {g:Nat} {d:DataW Unit} {r:List (String×DataW Unit)} (hn:Tryz.prog.globalNamed nm=some g) (ht:(Tryz.prog.globals[g]?).map (·.type)=some 30) (hdd:d= .agg [.lit (.int .i64 (-1)),.lit (.int .i64 0)]) (h:laidMet Tryz.prog ((nm,d)::r) W):
  W.cell? ⟨g,0,none⟩=some (.int .i64 (-1))/\W.cell? ⟨g,1,none⟩=some (.int .i64 0)/\g<W.heap.size:=by
 subst hdd;obtain ⟨ps,⟨g',t',cs,fuel,p,q,hg',ht',hvar,hd,_,_⟩,_⟩:=h;obtain rfl:=Option.some.inj (hn.symm.trans hg');obtain rfl:=Option.some.inj (ht.symm.trans ht');obtain ⟨y0,y1,n,e,hl,h0,h1⟩:=trod_struct2 Tryz.underlying30 hd;obtain ⟨m0,c0,rfl,_⟩:=DataW.trod_int Tryz.underlying3 h0;obtain ⟨m1,c1,rfl,_⟩:=DataW.trod_int Tryz.underlying3 h1;have e1:m0= -1/\m1=0:=by
  have:=congrArg Prod.fst e;simp at this;exact ⟨this.1.symm,this.2.symm⟩
 obtain ⟨rfl,rfl⟩:=e1;have hc1:Tryz.prog.cellsOf 3=1:=by kernel_rfl
 simp only [hc1] at c0 c1;have k0:cs[0]? =some (.int .i64 (-1)):=by
  have:=congrArg (·[0]?) c0;simpa [List.getElem?_take,List.getElem?_drop] using this
 have k1:cs[1]? =some (.int .i64 0):=by
  have:=congrArg (·[0]?) c1;simpa [List.getElem?_take,List.getElem?_drop] using this
 have a0:=(World.var?_cell hn hvar 0).trans k0;have a1:=(World.var?_cell hn hvar 1).trans k1;exact ⟨a0,a1,lt_of_cell a0⟩
theorem ahi {W:World} (h:laidMet Tryz.prog [("berthshift/directory.nowhere",Rows.laid_berthshift_directory_nowhere),("berthshift/cluster.unknown",Rows.laid_berthshift_cluster_unknown)] W):Uk W.heap.size W:=by
 obtain ⟨a,b,c⟩:=Xt abZ NT rfl h;obtain ⟨a2,b2,c2⟩:=Xt awY adZ rfl (laidMet.tail h);exact ⟨a2,b2,c2,a,b,c⟩
def aot:Obj->Obj
 | .cells _ t frozen=> .cells #[.int .i64 (-1),.int .i64 0] t frozen
 | o=>o
noncomputable def Ch (os:Os):World:=
 { World.holding Tryz.prog os ⟨#[],#[],[]⟩ with heap:=((World.holding Tryz.prog os ⟨#[],#[],[]⟩).heap.modify 0 aot).modify 1 aot }
def oh:Char:=Char.ofNat 32
theorem R8 (b:List Char):wordsSigns (oh::b)=[]::wordsSigns b:=rfl
theorem xO: ∀ (a b:List Char),a.all (λc=> !(c==oh))=true->wordsSigns (a++oh::b)=a::wordsSigns b
 | [],b,_=>R8 b
 | c::a,b,h=>by
  simp only [List.all_cons,Bool.and_eq_true,Bool.not_eq_true',beq_eq_false_iff_ne] at h;have ih:=xO a b h.2;rw [List.cons_append,wordsSigns,ih];intro e;exact h.1 e
theorem VL {l:List Char} (h1:l.take 8= "harness".toList++[oh]) (h2:((l.drop 8).take 64).all (λc=> !(c==oh))=true) (h3:(l.drop 72).take 5=[oh]++("cut".toList++[oh])):
  ∃ s rest,s=(l.drop 8).take 64/\wordsSigns l= "harness".toList::s:: "cut".toList::rest:=by
 refine ⟨_,wordsSigns (l.drop 77),rfl,?_⟩;generalize hs:(l.drop 8).take 64=s at h2;have e1:l= "harness".toList++oh::(s++oh::("cut".toList++oh::l.drop 77)):=by
  have a1:l.take 8++l.drop 8=l:=List.take_append_drop 8 l;have a2:(l.drop 8).take 64++(l.drop 8).drop 64=l.drop 8:=List.take_append_drop 64 _;have a3:(l.drop 72).take 5++(l.drop 72).drop 5=l.drop 72:=List.take_append_drop 5 _;rw [List.drop_drop] at a2 a3;rw [h3] at a3;rw [h1] at a1;rw [hs] at a2
  calc l=_:=a1.symm
   _=_:=by rw [<-a2,show 8+64=72 from rfl,<-a3];simp
 generalize l.drop 77=r at e1;rw [e1,xO _ _ (by decide),xO _ _ h2,xO _ _ (by decide)]
theorem MO (rest:List (List Char)):stripLifts liftWords ("cut".toList::rest)=([], "cut".toList::rest):=by
 unfold liftWords
 repeat (rw [stripLifts,if_neg (by decide)])
 rw [stripLifts]
section
variable {P:Program} {s:List Char} {rest:List (List Char)} (hw:wordsSigns P.initOrder.toList= "harness".toList::s:: "cut".toList::rest) (hs:isSumSigns s=true)
include hw hs
theorem xP:behindMainWord (wordsSigns P.initOrder.toList)= "cut".toList::rest:=by
 rw [hw,behindMainWord,if_pos (by rw [hs];decide)]
theorem OT (h1:P.laysLater=false) (h2:P.bearsReflect=false) (h3:P.doorFits []=true):P.mayEnter=true:=by
 unfold Program.mayEnter;rw [xP hw hs];simp only;rw [MO];simp only [h1,h2];rw [h3];simp
theorem KY:P.headLifts=[]:=by
 unfold Program.headLifts;rw [xP hw hs,MO];rfl
theorem Kg:P.liftsFinal=false:=by
 unfold Program.liftsFinal;rw [KY hw hs,xP hw hs];simp only [List.head?_cons];rw [show (some "cut".toList==some "carried".toList)=false by decide]
 rfl
theorem ad1:P.make=some .cut:=by
 unfold Program.make;rw [xP hw hs];simp only;rw [if_neg (by decide),if_pos (by rw [show ("cut".toList== "cut".toList)=true by decide];rfl)]
end
theorem ad2 {P:Program} {s t:List Char} {rest:List (List Char)} (hw:wordsSigns P.initOrder.toList= "harness".toList::s::rest) (hs:isSumSigns s=true) (e:s=t):P.mainIs=some (true,t):=by
 subst e;unfold Program.mainIs;rw [hw];simp [hs]
def Nr (P:Program) (f:FuncId) (fn:Func) (s:ChangeSpec) (c:OpenClaim):Bool:=
 c.wf (OpenSpec.ofChange s)&&laidOutB P&&mapsRowed P&&
 fn.params.all (P.readableRec ·)&&namedTie P c.named s.vars&&
 (c.stops==[])&&(P.stops==[])&&(c.knobs==[])&&(P.stopKnobs==[])&&
 (c.inPlace==P.inPlace f)&&(c.unfollowed==P.unfollowed f)&&(c.recurses==P.recurses f)&&(c.named==P.varsNamed f)&&
 (c.maps==(fn.params.toList++s.plain.varTypes P).any (P.mapsRec ·))&&(c.ifaces==(fn.params.toList++s.plain.varTypes P).any (P.ifacesRec ·))&&(c.mapsOut==P.mapsAmong fn.resultTypes.toList)&&
 (c.loops==(fn.params.toList++s.plain.varTypes P).any (P.loopsFrom ·))&&(c.wideKeys==(fn.params.toList++s.plain.varTypes P++fn.resultTypes.toList).any (P.wideKeysFrom ·))&&
 s.vars.all (P.varReadable ·)&&fn.resultTypes.all (λt=>P.readableRec t&&decide (t<P.types.size))&&(c.ifacesOut==fn.resultTypes.toList.any (P.ifacesRec ·))&&(c.loopsOut==fn.resultTypes.toList.any (P.loopsFrom ·))&&(c.plainKeys==P.plainKeys)&&c.shortTexts.isNone&&P.stopsHeard
theorem aat {P:Program} {f:FuncId} {fn:Func} {s:ChangeSpec} {c:OpenClaim} (h:Nr P f fn s c=true) (h1:P.mayEnter=true) (h2:(c.lifted==P.liftsFinal)=true) (h3:(P.make==some c.make)=true)
  (h4:((c.kinds==(if c.domain.isEmpty then [] else fn.params.toList.map λt=>match P.underlying t with | some (.int k)=>some k | _=>none))&&(c.pinned==c.pinnedBy)&&
   (c.veiled==(fn.params.toList++s.plain.varTypes P++fn.resultTypes.toList).any (P.veiledRec ·))&&c.veiledFits P fn.params.toList (fn.params.toList++s.plain.varTypes P++fn.resultTypes.toList))=true):joinedFacts P f fn s c=true:=by
 have e:joinedFacts P f fn s c=(Nr P f fn s c&&P.mayEnter&&(c.lifted==P.liftsFinal)&&(P.make==some c.make)&&(c.kinds==(if c.domain.isEmpty then [] else fn.params.toList.map λt=>match P.underlying t with | some (.int k)=>some k | _=>none))&&(c.pinned==c.pinnedBy)&&
   (c.veiled==(fn.params.toList++s.plain.varTypes P++fn.resultTypes.toList).any (P.veiledRec ·))&&c.veiledFits P fn.params.toList (fn.params.toList++s.plain.varTypes P++fn.resultTypes.toList)):=rfl
 rw [e,h,h1,h2,h3];simpa using h4
theorem aau: ∃ l:List Char,Tryz.prog.initOrder.toList=l/\l.take 8= "harness".toList++[oh]/\((l.drop 8).take 64).all (λc=> !(c==oh))=true/\(l.drop 72).take 5=[oh]++("cut".toList++[oh])/\isSumSigns ((l.drop 8).take 64)=true/\(l.drop 8).take 64= "5d874e2b8e72c2a99403e3e506f236953b00c8573004f1f580a65f92b516d6db".toList:=by
 rw [show Tryz.prog.initOrder=Tryz.tables.initOrder by kernel_rfl];unfold Tryz.tables;simp only [];exact ⟨_,String.toList_ofList,by kernel_rfl,by kernel_rfl,by kernel_rfl,by kernel_rfl,by kernel_rfl⟩
theorem Av: ∃ s rest,wordsSigns Tryz.prog.initOrder.toList= "harness".toList::s:: "cut".toList::rest/\isSumSigns s=true/\s= "5d874e2b8e72c2a99403e3e506f236953b00c8573004f1f580a65f92b516d6db".toList:=by
 obtain ⟨l,e,h1,h2,h3,h4,h5⟩:=aau;obtain ⟨s,rest,es,hw⟩:=VL h1 h2 h3;subst es;exact ⟨_,rest,by rw [e];exact hw,h4,h5⟩
theorem VN:Tryz.prog.laysLater=false:=by kernel_rfl
theorem OU:Tryz.prog.bearsReflect=false:=by kernel_rfl
theorem VO:Tryz.prog.doorFits []=true:=by kernel_rfl
theorem VP:Tryz.prog.mayEnter=true:=by
 obtain ⟨s,rest,hw,hs,_⟩:=Av;exact OT hw hs VN OU VO
theorem VQ:(false==Tryz.prog.liftsFinal)=true:=by
 obtain ⟨s,rest,hw,hs,_⟩:=Av;rw [Kg hw hs];rfl
theorem aav:(Tryz.prog.make==some .cut)=true:=by
 obtain ⟨s,rest,hw,hs,_⟩:=Av;rw [ad1 hw hs]
 decide
theorem aaw:Tryz.prog.mainIs=some (true, "5d874e2b8e72c2a99403e3e506f236953b00c8573004f1f580a65f92b516d6db".toList):=by
 obtain ⟨s,rest,hw,hs,e⟩:=Av;exact ad2 hw hs e
theorem VR:true=Tryz.pinned.checked.prog.looks []:=by kernel_rfl
end
end Go.Proofs.YtbffmhpkenoogaaGreatDoor
