import Derived.Test.YtnhimdkpkmbhlaaGreatDoorG968ce
import Derived.Test.YtnhimdkpkmbhlaaGreatDoorGc1845
set_option maxRecDepth 100000
set_option maxHeartbeats 8000000
set_option linter.unusedSimpArgs false
set_option linter.unusedVariables false
namespace Go.Proofs.YtnhimdkpkmbhlaaGreatDoor
open ChangeShapes WideShapes RowKit
theorem NW (ep nx gv:Int) (A1 A2:Option Addr) (c1 c2:Nat) (rs:List gM) (ls:List Ls) (W:kE) (w:World) (h1:Rd w w.heap.size 2 A1 rs.length (rs.flatMap gM.cells)) (h2:Rd w w.heap.size 4 A2 ls.length (ls.flatMap Ls.cells)) (hb1:rs.length*16<=reachBytes) (hb2:ls.length*32<=reachBytes):
    Calls Tryz.prog 24 #[.agg (dw ep nx gv (.slice A1 rs.length c1) (.slice A2 ls.length c2) W)] w (SY w (jc ep nx gv rs ls W)):=by
 unfold reachBytes at hb1 hb2;have S:=((St.start w).bZ h2).bZ h1;refine gy 140 Tryz.func24 ?_;refine cw [0] ?_;refine zN 2 ?_;refine iC S ?_;intro b1 w2 S3;refine zN 7 ?_;refine vv (ah rfl rfl (av Tryz.underlying3 rfl (St.cl 0 S3 rfl wS))) ?_;by_cases h4:ep<0
 ·refine zN 47 ?_;exact ⟨gP (AO (by omega)).symm,S3.low⟩
 refine zN 3 ?_;refine vg (ah rfl rfl (av Tryz.underlying3 rfl (St.cl 0 S3 rfl wS))) ?_;by_cases h5:1048576<ep
 ·refine zN 43 ?_;exact ⟨gP (AO (by omega)).symm,S3.low⟩
 refine zN 4 ?_;refine vg (ah rfl rfl (av Tryz.underlying3 rfl (St.cl 0 S3 rfl zo))) ?_;by_cases h6:nx<0
 ·refine zN 38 ?_;exact ⟨gP (AO (by omega)).symm,S3.low⟩
 refine zN 4 ?_;refine vg (ah rfl rfl (av Tryz.underlying3 rfl (St.cl 0 S3 rfl zo))) ?_;by_cases h7:1073741824<nx
 ·refine zN 33 ?_;exact ⟨gP (AO (by omega)).symm,S3.low⟩
 refine zN 4 ?_;refine vg (ah rfl rfl (av Tryz.underlying3 rfl (St.cl 0 S3 rfl zq))) ?_;by_cases h8:gv<0
 ·refine zN 28 ?_;exact ⟨gP (AO (by omega)).symm,S3.low⟩
 refine zN 4 ?_;refine vg (ah rfl rfl (av Tryz.underlying3 rfl (St.cl 0 S3 rfl zq))) ?_;by_cases h9:1073741824<gv
 ·refine zN 23 ?_;exact ⟨gP (AO (by omega)).symm,S3.low⟩
 refine zN 4 ?_;refine vg (ah rfl rfl (av Tryz.underlying39 rfl (St.cl 0 S3 rfl oK))) ?_;refine zN 2 ?_;refine vg (ah rfl rfl (av Tryz.underlying40 rfl (St.cl 0 S3 rfl rF))) ?_;refine zQ ?_;refine vg (v:=iV ((rs.length+ls.length:Nat):Int)) jg ?_;by_cases h10:500< ((rs.length+ls.length:Nat):Int)
 ·refine zN 13 ?_;exact ⟨gP (AO (by omega)).symm,S3.low⟩
 refine zN 11 ?_;refine vv (ah rfl rfl (aA (cs:=(W.cells)) Tryz.underlying44 rfl ah3 rfl (St.rg 0 S3 rfl (agz)))) ?_;refine zN 4 ?_;refine eD (X:=Nat) (λxv=>[(1,pV b1 0),(2,iV 0),(51,.agg ((W.cells).toArray)),(52,iV ((xv:Nat):Int))]) (λxv wr=>(xv<=4)/\(∀ j,j<xv->fE (W.at j)=0)/\St w.heap.size w wr [.blk b1 (dw ep nx gv (.slice A1 rs.length c1) (.slice A2 ls.length c2) W) 46,.rd 2 A1 rs.length ((rs).flatMap gM.cells),.rd 4 A2 ls.length ((ls).flatMap Ls.cells)]) (λxv=>4-xv) (0) ?_ ?_ ?_
 ·exact ⟨Nat.zero_le _,λj hj=>absurd hj (Nat.not_lt_zero _),S3⟩
 ·exact ⟨rfl,rfl,rfl,rfl,trivial⟩
 rintro k FM ⟨ajw,JZ,lN⟩
 try dsimp only at ajw JZ lN
 refine bn (l':=[(1,pV b1 0),(2,iV 0),(51,.agg ((W.cells).toArray)),(52,iV ((k:Nat):Int))]) ⟨rfl,rfl,rfl,rfl,trivial⟩ (aH (aB ?_));by_cases h15:((k:Nat):Int)<4
 ·refine zN 11 ?_;refine vv (v:= .agg (((W.at k).cells).toArray)) (afD rfl rfl rfl (UK W k (by omega) _)) ?_;refine fO lN ajr ?_;intro b16 Kz iQ;refine stA 0 iQ Dz ?_ (h1:=Gz _);intro FN nJ;refine zN 5 ?_;refine cab avW nJ (Dt (W.at k) _) ?_;intro EH iI;refine zN 6 ?_;by_cases NY:fE (W.at k)=0
  ·refine zN 8 ?_;refine vv (v:=iV ((k+1:Nat):Int)) jg ?_;refine zN 2 ?_;have jm:=iI.aT [0];refine aU (k+1) ?_ ⟨rfl,rfl,rfl,rfl,trivial⟩ (by first | omega | (dsimp only;omega));exact ⟨(by omega),(λj hj=>(Nat.lt_succ_iff_lt_or_eq.1 hj).elim (λh=>JZ j h) (λh=>by rw [h];exact NY)),jm⟩
  refine zN 17 ?_;refine ⟨gP ?_,iI.low⟩;rw [ams (j:=k) (by omega) NY];exact (agK _).resolve_left NY
 refine zN 12 ?_;refine UH (k:=3) lN (wn rfl) rfl rfl rfl ?_;intro X4 KA qJ;have awL:Hr W:=λj hj=>JZ j (by omega);refine zN 12 ?_;refine vv (ah rfl rfl (av Tryz.underlying39 rfl (St.cl 1 qJ rfl oK))) ?_;refine zN 5 ?_;refine eD (X:=Nat×Int) (λxv=>[(1,pV b1 0),(2,iV 0),(6,.map (some X4)),(7,iV xv.2),(63,.slice A1 rs.length c1),(64,iV ((rs.length:Nat):Int)),(65,iV ((xv.1:Nat):Int))]) (λxv wr=>(xv.1<=rs.length)/\(l7 nx (-1) rs=l7 nx xv.2 (rs.drop xv.1))/\St w.heap.size w wr [.loc X4 (JW Tryz.prog 3 ((rs.take xv.1).map (·.no))),.blk b1 (dw ep nx gv (.slice A1 rs.length c1) (.slice A2 ls.length c2) W) 46,.rd 2 A1 rs.length ((rs).flatMap gM.cells),.rd 4 A2 ls.length ((ls).flatMap Ls.cells)]) (λxv=>rs.length-xv.1) (0,-1) ?_ ?_ ?_
 ·exact ⟨Nat.zero_le _,rfl,qJ⟩
 ·exact ⟨rfl,rfl,rfl,rfl,rfl,rfl,rfl,trivial⟩
 rintro ⟨k,p⟩ Wv ⟨GH,wu,ni⟩
 try dsimp only at GH wu ni
 refine bn (l':=[(1,pV b1 0),(2,iV 0),(6,.map (some X4)),(7,iV p),(63,.slice A1 rs.length c1),(64,iV ((rs.length:Nat):Int)),(65,iV ((k:Nat):Int))]) ⟨rfl,rfl,rfl,rfl,rfl,rfl,rfl,trivial⟩ (aH (aB ?_));by_cases h34:((k:Nat):Int)< ((rs.length:Nat):Int)
 ·refine zN 11 ?_;obtain ⟨b35,o36,rfl⟩:=Rd.addr (St.rd 2 ni rfl) (by omega);obtain ⟨x37,hx38⟩:=Ho k (St.rd 2 ni rfl) (by omega);refine vv (jX k) ?_;refine vv (ah rfl rfl (aA (cs:=gM.cells x37) Tryz.underlying62 rfl DI rfl (Rd.uY (St.rd 2 ni rfl) (λ_ _ h=>bC (enc:=gM.cells) (sz:=2) (λ_=>rfl) hx38 h)))) ?_;refine fO ni awy ?_;intro b39 w40 Hw;refine sa 0 Hw DI ?_;intro R4 rX;refine zN 7 ?_;refine dN an5 (Bu ep nx gv _ _ W x37 _) ?_;rintro _ NV ⟨rfl,awM⟩;refine ⟨_,rfl,?_⟩;have nI:=rX.on awM
  cases Te:(vJ nx x37)
  ·refine zN 23 ?_;exact ⟨gP (yA λh=>by rw [wu,Ir hx38,Te] at h;exact absurd h.2.1 (by simp)).symm,nI.low⟩
  have aCt:=Pt Te;refine zN 5 ?_;by_cases h49:p<x37.no
  ·refine zN 18 ?_;refine vv (v:= .agg #[]) yz ?_;refine Lu (z:=x37.no) 1 nI (wn rfl) rfl rfl rfl rfl rfl rfl Tryz.underlying3 Tryz.underlying124 (by omega) (by simp [maxLen];omega) ?_;intro R7 uq;rw [Iu (f:=λm:gM=>m.no) hx38] at uq;refine zN 4 ?_;refine vv (v:=iV ((k+1:Nat):Int)) jg ?_;refine zN 2 ?_;have wo:=uq.aT [0];refine aU (k+1,x37.no) ?_ ⟨rfl,rfl,rfl,rfl,rfl,rfl,rfl,trivial⟩ (by first | omega | (dsimp only;omega));exact ⟨(by dsimp only;omega),(by dsimp only;rw [wu,Ir hx38,Te,decide_eq_true h49];rfl),wo⟩
  refine zN 18 ?_;exact ⟨gP (yA λh=>by rw [wu,Ir hx38,decide_eq_false h49] at h;exact absurd h.2.1 (by simp)).symm,nI.low⟩
 refine zN 19 ?_;refine vv (ah rfl rfl (av Tryz.underlying40 rfl (St.cl 1 ni rfl rF))) ?_;refine zN 5 ?_;have awN:l7 nx (-1) rs=true:=by rw [wu,List.drop_of_length_le (by omega)];rfl
 have uK:=ni;rw [List.take_of_length_le (show rs.length<=k by omega)] at uK;rw [<-List.append_nil (rs.map (·.no))] at uK;refine eD (X:=Nat×Int) (λxv=>[(1,pV b1 0),(2,iV 0),(6,.map (some X4)),(7,iV xv.2),(87,.slice A2 ls.length c2),(88,iV ((ls.length:Nat):Int)),(89,iV ((xv.1:Nat):Int))]) (λxv wr=>(xv.1<=ls.length)/\(nZ ep nx gv (-1) ls=nZ ep nx gv xv.2 (ls.drop xv.1))/\St w.heap.size w wr [.loc X4 (JW Tryz.prog 3 (rs.map (·.no)++(ls.take xv.1).map (·.msg.no))),.blk b1 (dw ep nx gv (.slice A1 rs.length c1) (.slice A2 ls.length c2) W) 46,.rd 2 A1 rs.length ((rs).flatMap gM.cells),.rd 4 A2 ls.length ((ls).flatMap Ls.cells)]) (λxv=>ls.length-xv.1) (0,-1) ?_ ?_ ?_
 ·exact ⟨Nat.zero_le _,rfl,uK⟩
 ·exact ⟨rfl,rfl,rfl,rfl,rfl,rfl,rfl,trivial⟩
 rintro ⟨k,p⟩ w56 ⟨awO,OQ,qh⟩
 try dsimp only at awO OQ qh
 refine bn (l':=[(1,pV b1 0),(2,iV 0),(6,.map (some X4)),(7,iV p),(87,.slice A2 ls.length c2),(88,iV ((ls.length:Nat):Int)),(89,iV ((k:Nat):Int))]) ⟨rfl,rfl,rfl,rfl,rfl,rfl,rfl,trivial⟩ (aH (aB ?_));by_cases h60:((k:Nat):Int)< ((ls.length:Nat):Int)
 ·refine zN 11 ?_;obtain ⟨b61,o62,rfl⟩:=Rd.addr (St.rd 3 qh rfl) (by omega);obtain ⟨Ww,OT⟩:=Ho k (St.rd 3 qh rfl) (by omega);refine vv (jX k) ?_;refine vv (ah rfl rfl (aA (cs:=Ls.cells Ww) Tryz.underlying64 rfl F7 rfl (Rd.uY (St.rd 3 qh rfl) (λ_ _ h=>bC (enc:=Ls.cells) (sz:=4) (λ_=>rfl) OT h)))) ?_;refine fO qh aod ?_;intro b65 R6 sI;refine sa 0 sI F7 ?_;intro w68 uw;refine zN 7 ?_;refine vv (ah rfl rfl (aA (cs:=[iV Ww.msg.no,iV Ww.msg.body]) Tryz.underlying62 rfl DI rfl (St.rg 0 uw rfl (je (x:=2) (m:=2) rfl)))) ?_;refine dN an5 (Bu ep nx gv _ _ W Ww.msg _) ?_;rintro _ XZ ⟨rfl,awP⟩;refine ⟨_,rfl,?_⟩;have rz:=uw.on awP
  cases ajx:(vJ nx Ww.msg)
  ·refine zN 40 ?_;exact ⟨gP (yA λh=>by rw [OQ,Ck OT,Lx,ajx] at h;exact absurd h.2.2.1 (by simp)).symm,rz.low⟩
  have aCu:=Pt ajx;refine zN 6 ?_;refine vg (ah rfl rfl (av Tryz.underlying3 rfl (St.cl 2 rz rfl wS))) ?_;by_cases h75:Ww.dQ=ep
  ·refine zN 7 ?_;by_cases h76:p<Ww.hno
   ·refine zN 7 ?_;refine vg (ah rfl rfl (av Tryz.underlying3 rfl (St.cl 2 rz rfl zq))) ?_;by_cases h77:Ww.hno<gv
    ·refine zN 20 ?_;refine vv (v:= .agg #[]) yz ?_;refine Lu (z:=Ww.msg.no) 1 rz (wn rfl) rfl rfl rfl rfl rfl rfl Tryz.underlying3 Tryz.underlying124 (by omega) (by simp [maxLen];omega) ?_;intro w78 Bw;rw [List.append_assoc,Iu (f:=λm:Ls=>m.msg.no) OT] at Bw;refine zN 4 ?_;refine vv (v:=iV ((k+1:Nat):Int)) jg ?_;refine zN 2 ?_;have tK:=Bw.aT [0];refine aU (k+1,Ww.hno) ?_ ⟨rfl,rfl,rfl,rfl,rfl,rfl,rfl,trivial⟩ (by first | omega | (dsimp only;omega));exact ⟨(by dsimp only;omega),(by dsimp only;rw [OQ,Ck OT,Lx,ajx,decide_eq_true ⟨by omega,by omega,by omega⟩];rfl),tK⟩
    refine zN 18 ?_;exact ⟨gP (yA λh=>by rw [OQ,Ck OT,Lx,decide_eq_false (λh1=>h77 (h1.2.2)),Bool.and_false] at h;exact absurd h.2.2.1 (by simp)).symm,rz.low⟩
   refine zN 26 ?_;exact ⟨gP (yA λh=>by rw [OQ,Ck OT,Lx,decide_eq_false (λh1=>h76 (h1.2.1)),Bool.and_false] at h;exact absurd h.2.2.1 (by simp)).symm,rz.low⟩
  refine zN 33 ?_;exact ⟨gP (yA λh=>by rw [OQ,Ck OT,Lx,decide_eq_false (λh1=>h75 (h1.1)),Bool.and_false] at h;exact absurd h.2.2.1 (by simp)).symm,rz.low⟩
 refine zN 14 ?_;have awQ:nZ ep nx gv (-1) ls=true:=by rw [OQ,List.drop_of_length_le (by omega)];rfl
 have zR:=qh;rw [List.take_of_length_le (show ls.length<=k by omega)] at zR;change St _ _ _ [.loc X4 (JW Tryz.prog 3 (zu rs ls)),.blk b1 (dw ep nx gv (.slice A1 rs.length c1) (.slice A2 ls.length c2) W) 46,.rd 2 A1 rs.length ((rs).flatMap gM.cells),.rd 4 A2 ls.length ((ls).flatMap Ls.cells)] at zR;obtain ⟨m84,awR,awS,ajy⟩:=acC 0 zR rfl Tryz.underlying124 3;have hnl:(zu rs ls).length=rs.length+ls.length:=by simp [zu]
 rw [hnl] at awS ajy;refine vv (v:=iV ((m84:Nat):Int)) (jQ (vs:=[.map (some X4)]) rfl ⟨rfl,trivial⟩ awR) ?_;refine zQ ?_;refine vv (ah rfl rfl (av Tryz.underlying39 rfl (St.cl 1 zR rfl oK))) ?_;refine zN 2 ?_;refine vv (ah rfl rfl (av Tryz.underlying40 rfl (St.cl 1 zR rfl rF))) ?_;refine zQ ?_;refine vv (v:=iV ((rs.length+ls.length:Nat):Int)) jg ?_;by_cases h88:((m84:Nat):Int)< ((rs.length+ls.length:Nat):Int)
 ·refine zN 12 ?_;exact ⟨gP (yA λh=>ajy.1 (by omega) h.2.2.2).symm,zR.low⟩
 refine zN 13 ?_;exact ⟨gP (asl (by unfold Ta;omega) awL awN awQ (Classical.not_not.1 λh=>h88 (by have:=ajy.2 h;omega))).symm,zR.low⟩
end Go.Proofs.YtnhimdkpkmbhlaaGreatDoor
