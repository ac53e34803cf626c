import Derived.Test.YtbffmhpkenoogaaGreatDoorG82385
import Derived.Test.YtbffmhpkenoogaaGreatDoorGda7ad
set_option maxRecDepth 100000
set_option maxHeartbeats 8000000
namespace Go.Proofs.YtbffmhpkenoogaaGreatDoor
open ChangeShapes WideShapes RowKit
theorem Ob (ep nx gv:Int) (A1 A2:Option Addr) (c1 c2:Nat) (rs:List fJ) (ls:List Ls) (W:jO) (w:World) (h1:Rd w w.heap.size 2 A1 rs.length (rs.flatMap fJ.cells)) (h2:Rd w w.heap.size 4 A2 ls.length (ls.flatMap Ls.cells)) (hb1:rs.length*16<=reachBytes) (hb2:ls.length*32<=reachBytes):
    Calls Tryz.prog 52 #[.agg (cB ep nx gv (.slice A1 rs.length c1) (.slice A2 ls.length c2) W)] w (Tx w (fD ep nx gv rs ls W)):=by
 unfold reachBytes at hb1 hb2;have S:=((St.start w).bS h2).bS h1;refine fZ 140 Tryz.func52 ?_;refine cw [0] ?_;refine zN 2 ?_;refine iC S ?_;intro b1 w2 S3;refine zN 7 ?_;refine vv (au rfl rfl (ay Tryz.underlying3 rfl (St.cl 0 S3 rfl wM))) ?_;by_cases h4:ep<0
 ·refine zN 47 ?_;exact ⟨gF (AU (by omega)).symm,S3.low⟩
 refine zN 3 ?_;refine vg (au rfl rfl (ay Tryz.underlying3 rfl (St.cl 0 S3 rfl wM))) ?_;by_cases h5:1048576<ep
 ·refine zN 43 ?_;exact ⟨gF (AU (by omega)).symm,S3.low⟩
 refine zN 4 ?_;refine vg (au rfl rfl (ay Tryz.underlying3 rfl (St.cl 0 S3 rfl zD))) ?_;by_cases h6:nx<0
 ·refine zN 38 ?_;exact ⟨gF (AU (by omega)).symm,S3.low⟩
 refine zN 4 ?_;refine vg (au rfl rfl (ay Tryz.underlying3 rfl (St.cl 0 S3 rfl zD))) ?_;by_cases h7:1073741824<nx
 ·refine zN 33 ?_;exact ⟨gF (AU (by omega)).symm,S3.low⟩
 refine zN 4 ?_;refine vg (au rfl rfl (ay Tryz.underlying3 rfl (St.cl 0 S3 rfl zF))) ?_;by_cases h8:gv<0
 ·refine zN 28 ?_;exact ⟨gF (AU (by omega)).symm,S3.low⟩
 refine zN 4 ?_;refine vg (au rfl rfl (ay Tryz.underlying3 rfl (St.cl 0 S3 rfl zF))) ?_;by_cases h9:1073741824<gv
 ·refine zN 23 ?_;exact ⟨gF (AU (by omega)).symm,S3.low⟩
 refine zN 4 ?_;refine vg (au rfl rfl (ay Tryz.underlying50 rfl (St.cl 0 S3 rfl oF))) ?_;refine zN 2 ?_;refine vg (au rfl rfl (ay Tryz.underlying51 rfl (St.cl 0 S3 rfl rU))) ?_;refine zQ ?_;refine vg (v:=iV ((rs.length+ls.length:Nat):Int)) jh ?_;by_cases h10:500< ((rs.length+ls.length:Nat):Int)
 ·refine zN 13 ?_;exact ⟨gF (AU (by omega)).symm,S3.low⟩
 refine zN 11 ?_;refine vv (au rfl rfl (aA (cs:=(W.cells)) Tryz.underlying55 rfl ahp rfl (St.rg 0 S3 rfl (afP)))) ?_;refine zN 4 ?_;refine fH (X:=Nat) (λxv=>[(1,pV b1 0),(2,iV 0),(51,.agg ((W.cells).toArray)),(52,iV ((xv:Nat):Int))]) (λxv wr=>(xv<=4)/\(∀ j,j<xv->dB (W.at j)=0)/\St w.heap.size w wr [.blk b1 (cB ep nx gv (.slice A1 rs.length c1) (.slice A2 ls.length c2) W) 57,.rd 2 A1 rs.length ((rs).flatMap fJ.cells),.rd 4 A2 ls.length ((ls).flatMap Ls.cells)]) (λxv=>4-xv) (0) ?_ ?_ ?_
 ·exact ⟨Nat.zero_le _,λj hj=>absurd hj (Nat.not_lt_zero _),S3⟩
 ·exact ⟨rfl,rfl,rfl,rfl,trivial⟩
 rintro k HY ⟨aiq,J3,l6⟩
 try dsimp only at aiq J3 l6
 refine bH (l':=[(1,pV b1 0),(2,iV 0),(51,.agg ((W.cells).toArray)),(52,iV ((k:Nat):Int))]) ⟨rfl,rfl,rfl,rfl,trivial⟩ (aT (aH ?_));by_cases h15:((k:Nat):Int)<4
 ·refine zN 11 ?_;refine vv (v:= .agg (((W.at k).cells).toArray)) (aeX rfl rfl rfl (U4 W k (by omega) _)) ?_;refine fI l6 aik ?_;intro b16 Jp iN;refine stA 0 iN DW ?_ (h1:=GA _);intro FR nD;refine zN 5 ?_;refine cab arz nD (DK (W.at k) _) ?_;intro EO iR;refine zN 6 ?_;by_cases Oc:dB (W.at k)=0
  ·refine zN 8 ?_;refine vv (v:=iV ((k+1:Nat):Int)) jh ?_;refine zN 2 ?_;have jg:=iR.aR [0];refine bQ (k+1) ?_ ⟨rfl,rfl,rfl,rfl,trivial⟩ (by first | omega | (dsimp only;omega));exact ⟨(by omega),(λj hj=>(Nat.lt_succ_iff_lt_or_eq.1 hj).elim (λh=>J3 j h) (λh=>by rw [h];exact Oc)),jg⟩
  refine zN 17 ?_;refine ⟨gF ?_,iR.low⟩;rw [alb (j:=k) (by omega) Oc];exact (af0 _).resolve_left Oc
 refine zN 12 ?_;refine U2 (k:=3) l6 (wn rfl) rfl rfl rfl ?_;intro Yi LA qO;have asj:yD W:=λj hj=>J3 j (by omega);refine zN 12 ?_;refine vv (au rfl rfl (ay Tryz.underlying50 rfl (St.cl 1 qO rfl oF))) ?_;refine zN 5 ?_;refine fH (X:=Nat×Int) (λxv=>[(1,pV b1 0),(2,iV 0),(6,.map (some Yi)),(7,iV xv.2),(63,.slice A1 rs.length c1),(64,iV ((rs.length:Nat):Int)),(65,iV ((xv.1:Nat):Int))]) (λxv wr=>(xv.1<=rs.length)/\(jD nx (-1) rs=jD nx xv.2 (rs.drop xv.1))/\St w.heap.size w wr [.loc Yi (JX Tryz.prog 3 ((rs.take xv.1).map (·.no))),.blk b1 (cB ep nx gv (.slice A1 rs.length c1) (.slice A2 ls.length c2) W) 57,.rd 2 A1 rs.length ((rs).flatMap fJ.cells),.rd 4 A2 ls.length ((ls).flatMap Ls.cells)]) (λxv=>rs.length-xv.1) (0,-1) ?_ ?_ ?_
 ·exact ⟨Nat.zero_le _,rfl,qO⟩
 ·exact ⟨rfl,rfl,rfl,rfl,rfl,rfl,rfl,trivial⟩
 rintro ⟨k,p⟩ WO ⟨GJ,vY,mW⟩
 try dsimp only at GJ vY mW
 refine bH (l':=[(1,pV b1 0),(2,iV 0),(6,.map (some Yi)),(7,iV p),(63,.slice A1 rs.length c1),(64,iV ((rs.length:Nat):Int)),(65,iV ((k:Nat):Int))]) ⟨rfl,rfl,rfl,rfl,rfl,rfl,rfl,trivial⟩ (aT (aH ?_));by_cases h34:((k:Nat):Int)< ((rs.length:Nat):Int)
 ·refine zN 11 ?_;obtain ⟨b35,o36,rfl⟩:=Rd.addr (St.rd 2 mW rfl) (by omega);obtain ⟨x37,hx38⟩:=Ku k (St.rd 2 mW rfl) (by omega);refine vv (ku k) ?_;refine vv (au rfl rfl (aA (cs:=fJ.cells x37) Tryz.underlying88 rfl DX rfl (Rd.wS (St.rd 2 mW rfl) (λ_ _ h=>bV (enc:=fJ.cells) (sz:=2) (λ_=>rfl) hx38 h)))) ?_;refine fI mW ar7 ?_;intro b39 w40 H6;refine sa 0 H6 DX ?_;intro Sr sG;refine zN 7 ?_;refine dG al7 (BG ep nx gv _ _ W x37 _) ?_;rintro _ PV ⟨rfl,asl⟩;refine ⟨_,rfl,?_⟩;have nV:=sG.on asl
  cases TA:(qB nx x37)
  ·refine zN 23 ?_;exact ⟨gF (yE λh=>by rw [vY,Iu hx38,TA] at h;exact absurd h.2.1 (by simp)).symm,nV.low⟩
  have aw1:=vK TA;refine zN 5 ?_;by_cases h49:p<x37.no
  ·refine zN 18 ?_;refine vv (v:= .agg #[]) yz ?_;refine Lr (z:=x37.no) 1 nV (wn rfl) rfl rfl rfl rfl rfl rfl Tryz.underlying3 Tryz.underlying188 (by omega) (by simp [maxLen];omega) ?_;intro Sw uE;rw [Iw (f:=λm:fJ=>m.no) hx38] at uE;refine zN 4 ?_;refine vv (v:=iV ((k+1:Nat):Int)) jh ?_;refine zN 2 ?_;have xZ:=uE.aR [0];refine bQ (k+1,x37.no) ?_ ⟨rfl,rfl,rfl,rfl,rfl,rfl,rfl,trivial⟩ (by first | omega | (dsimp only;omega));exact ⟨(by dsimp only;omega),(by dsimp only;rw [vY,Iu hx38,TA,decide_eq_true h49];rfl),xZ⟩
  refine zN 18 ?_;exact ⟨gF (yE λh=>by rw [vY,Iu hx38,decide_eq_false h49] at h;exact absurd h.2.1 (by simp)).symm,nV.low⟩
 refine zN 19 ?_;refine vv (au rfl rfl (ay Tryz.underlying51 rfl (St.cl 1 mW rfl rU))) ?_;refine zN 5 ?_;have asn:jD nx (-1) rs=true:=by rw [vY,List.drop_of_length_le (by omega)];rfl
 have uN:=mW;rw [List.take_of_length_le (show rs.length<=k by omega)] at uN;rw [<-List.append_nil (rs.map (·.no))] at uN;refine fH (X:=Nat×Int) (λxv=>[(1,pV b1 0),(2,iV 0),(6,.map (some Yi)),(7,iV xv.2),(87,.slice A2 ls.length c2),(88,iV ((ls.length:Nat):Int)),(89,iV ((xv.1:Nat):Int))]) (λxv wr=>(xv.1<=ls.length)/\(kM ep nx gv (-1) ls=kM ep nx gv xv.2 (ls.drop xv.1))/\St w.heap.size w wr [.loc Yi (JX Tryz.prog 3 (rs.map (·.no)++(ls.take xv.1).map (·.msg.no))),.blk b1 (cB ep nx gv (.slice A1 rs.length c1) (.slice A2 ls.length c2) W) 57,.rd 2 A1 rs.length ((rs).flatMap fJ.cells),.rd 4 A2 ls.length ((ls).flatMap Ls.cells)]) (λxv=>ls.length-xv.1) (0,-1) ?_ ?_ ?_
 ·exact ⟨Nat.zero_le _,rfl,uN⟩
 ·exact ⟨rfl,rfl,rfl,rfl,rfl,rfl,rfl,trivial⟩
 rintro ⟨k,p⟩ w56 ⟨aso,O7,qd⟩
 try dsimp only at aso O7 qd
 refine bH (l':=[(1,pV b1 0),(2,iV 0),(6,.map (some Yi)),(7,iV p),(87,.slice A2 ls.length c2),(88,iV ((ls.length:Nat):Int)),(89,iV ((k:Nat):Int))]) ⟨rfl,rfl,rfl,rfl,rfl,rfl,rfl,trivial⟩ (aT (aH ?_));by_cases h60:((k:Nat):Int)< ((ls.length:Nat):Int)
 ·refine zN 11 ?_;obtain ⟨b61,o62,rfl⟩:=Rd.addr (St.rd 3 qd rfl) (by omega);obtain ⟨WQ,O8⟩:=Ku k (St.rd 3 qd rfl) (by omega);refine vv (ku k) ?_;refine vv (au rfl rfl (aA (cs:=Ls.cells WQ) Tryz.underlying90 rfl Gd rfl (Rd.wS (St.rd 3 qd rfl) (λ_ _ h=>bV (enc:=Ls.cells) (sz:=4) (λ_=>rfl) O8 h)))) ?_;refine fI qd amf ?_;intro b65 Sv sU;refine sa 0 sU Gd ?_;intro w68 uF;refine zN 7 ?_;refine vv (au rfl rfl (aA (cs:=[iV WQ.msg.no,iV WQ.msg.body]) Tryz.underlying88 rfl DX rfl (St.rg 0 uF rfl (nG (x:=2) (m:=2) rfl)))) ?_;refine dG al7 (BG ep nx gv _ _ W WQ.msg _) ?_;rintro _ Yg ⟨rfl,asq⟩;refine ⟨_,rfl,?_⟩;have rM:=uF.on asq
  cases air:(qB nx WQ.msg)
  ·refine zN 40 ?_;exact ⟨gF (yE λh=>by rw [O7,Cr O8,JY,air] at h;exact absurd h.2.2.1 (by simp)).symm,rM.low⟩
  have aw2:=vK air;refine zN 6 ?_;refine vg (au rfl rfl (ay Tryz.underlying3 rfl (St.cl 2 rM rfl wM))) ?_;by_cases h75:WQ.eP=ep
  ·refine zN 7 ?_;by_cases h76:p<WQ.hno
   ·refine zN 7 ?_;refine vg (au rfl rfl (ay Tryz.underlying3 rfl (St.cl 2 rM rfl zF))) ?_;by_cases h77:WQ.hno<gv
    ·refine zN 20 ?_;refine vv (v:= .agg #[]) yz ?_;refine Lr (z:=WQ.msg.no) 1 rM (wn rfl) rfl rfl rfl rfl rfl rfl Tryz.underlying3 Tryz.underlying188 (by omega) (by simp [maxLen];omega) ?_;intro w78 BI;rw [List.append_assoc,Iw (f:=λm:Ls=>m.msg.no) O8] at BI;refine zN 4 ?_;refine vv (v:=iV ((k+1:Nat):Int)) jh ?_;refine zN 2 ?_;have tV:=BI.aR [0];refine bQ (k+1,WQ.hno) ?_ ⟨rfl,rfl,rfl,rfl,rfl,rfl,rfl,trivial⟩ (by first | omega | (dsimp only;omega));exact ⟨(by dsimp only;omega),(by dsimp only;rw [O7,Cr O8,JY,air,decide_eq_true ⟨by omega,by omega,by omega⟩];rfl),tV⟩
    refine zN 18 ?_;exact ⟨gF (yE λh=>by rw [O7,Cr O8,JY,decide_eq_false (λh1=>h77 (h1.2.2)),Bool.and_false] at h;exact absurd h.2.2.1 (by simp)).symm,rM.low⟩
   refine zN 26 ?_;exact ⟨gF (yE λh=>by rw [O7,Cr O8,JY,decide_eq_false (λh1=>h76 (h1.2.1)),Bool.and_false] at h;exact absurd h.2.2.1 (by simp)).symm,rM.low⟩
  refine zN 33 ?_;exact ⟨gF (yE λh=>by rw [O7,Cr O8,JY,decide_eq_false (λh1=>h75 (h1.1)),Bool.and_false] at h;exact absurd h.2.2.1 (by simp)).symm,rM.low⟩
 refine zN 14 ?_;have asr:kM ep nx gv (-1) ls=true:=by rw [O7,List.drop_of_length_le (by omega)];rfl
 have zU:=qd;rw [List.take_of_length_le (show ls.length<=k by omega)] at zU;change St _ _ _ [.loc Yi (JX Tryz.prog 3 (mV rs ls)),.blk b1 (cB ep nx gv (.slice A1 rs.length c1) (.slice A2 ls.length c2) W) 57,.rd 2 A1 rs.length ((rs).flatMap fJ.cells),.rd 4 A2 ls.length ((ls).flatMap Ls.cells)] at zU;obtain ⟨m84,asu,asv,ais⟩:=ach 0 zU rfl Tryz.underlying188 3;have hnl:(mV rs ls).length=rs.length+ls.length:=by simp [mV]
 rw [hnl] at asv ais;refine vv (v:=iV ((m84:Nat):Int)) (nT (vs:=[.map (some Yi)]) rfl ⟨rfl,trivial⟩ asu) ?_;refine zQ ?_;refine vv (au rfl rfl (ay Tryz.underlying50 rfl (St.cl 1 zU rfl oF))) ?_;refine zN 2 ?_;refine vv (au rfl rfl (ay Tryz.underlying51 rfl (St.cl 1 zU rfl rU))) ?_;refine zQ ?_;refine vv (v:=iV ((rs.length+ls.length:Nat):Int)) jh ?_;by_cases h88:((m84:Nat):Int)< ((rs.length+ls.length:Nat):Int)
 ·refine zN 12 ?_;exact ⟨gF (yE λh=>ais.1 (by omega) h.2.2.2).symm,zU.low⟩
 refine zN 13 ?_;exact ⟨gF (apz (by unfold O4;omega) asj asn asr (Classical.not_not.1 λh=>h88 (by have:=ais.2 h;omega))).symm,zU.low⟩
end Go.Proofs.YtbffmhpkenoogaaGreatDoor
