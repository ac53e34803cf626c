import Derived.Test.YthhnonpehllibaaGreatDoorG078e5
import Derived.Test.YthhnonpehllibaaGreatDoorGa1a24
set_option maxRecDepth 100000
set_option maxHeartbeats 8000000
namespace Go.Proofs.YthhnonpehllibaaGreatDoor
open ChangeShapes WideShapes RowKit
theorem Qb (ep nx gv:Int) (A1 A2:Option Addr) (c1 c2:Nat) (rs:List fV) (ls:List Ls) (W:jX) (w:World) (h1:Rd w w.heap.size 2 A1 rs.length (rs.flatMap fV.cells)) (h2:Rd w w.heap.size 4 A2 ls.length (ls.flatMap Ls.cells)) (hb1:rs.length*16<=reachBytes) (hb2:ls.length*32<=reachBytes):
    Calls Tryz.prog 113 #[.agg (cZ ep nx gv (.slice A1 rs.length c1) (.slice A2 ls.length c2) W)] w (Vt w (fQ ep nx gv rs ls W)):=by
 unfold reachBytes at hb1 hb2;have S:=((St.start w).bV h2).bV h1;refine gu 140 Tryz.func113 ?_;refine cw [0] ?_;refine zN 2 ?_;refine iK S ?_;intro b1 w2 S3;refine zN 7 ?_;refine vv (aj rfl rfl (ay Tryz.underlying3 rfl (St.cl 0 S3 rfl xS))) ?_;by_cases h4:ep<0
 ·refine zN 47 ?_;exact ⟨gQ (Ci (by omega)).symm,S3.low⟩
 refine zN 3 ?_;refine vg (aj rfl rfl (ay Tryz.underlying3 rfl (St.cl 0 S3 rfl xS))) ?_;by_cases h5:1048576<ep
 ·refine zN 43 ?_;exact ⟨gQ (Ci (by omega)).symm,S3.low⟩
 refine zN 4 ?_;refine vg (aj rfl rfl (ay Tryz.underlying3 rfl (St.cl 0 S3 rfl Av))) ?_;by_cases h6:nx<0
 ·refine zN 38 ?_;exact ⟨gQ (Ci (by omega)).symm,S3.low⟩
 refine zN 4 ?_;refine vg (aj rfl rfl (ay Tryz.underlying3 rfl (St.cl 0 S3 rfl Av))) ?_;by_cases h7:1073741824<nx
 ·refine zN 33 ?_;exact ⟨gQ (Ci (by omega)).symm,S3.low⟩
 refine zN 4 ?_;refine vg (aj rfl rfl (ay Tryz.underlying3 rfl (St.cl 0 S3 rfl Aw))) ?_;by_cases h8:gv<0
 ·refine zN 28 ?_;exact ⟨gQ (Ci (by omega)).symm,S3.low⟩
 refine zN 4 ?_;refine vg (aj rfl rfl (ay Tryz.underlying3 rfl (St.cl 0 S3 rfl Aw))) ?_;by_cases h9:1073741824<gv
 ·refine zN 23 ?_;exact ⟨gQ (Ci (by omega)).symm,S3.low⟩
 refine zN 4 ?_;refine vg (aj rfl rfl (ay Tryz.underlying162 rfl (St.cl 0 S3 rfl pz))) ?_;refine zN 2 ?_;refine vg (aj rfl rfl (ay Tryz.underlying163 rfl (St.cl 0 S3 rfl sZ))) ?_;refine zQ ?_;refine vg (v:=iV ((rs.length+ls.length:Nat):Int)) gD ?_;by_cases h10:500< ((rs.length+ls.length:Nat):Int)
 ·refine zN 13 ?_;exact ⟨gQ (Ci (by omega)).symm,S3.low⟩
 refine zN 11 ?_;refine vv (aj rfl rfl (aA (cs:=(W.cells)) Tryz.underlying167 rfl aiQ rfl (St.rg 0 S3 rfl (ahe)))) ?_;refine zN 4 ?_;refine dN (X:=Nat) (λxv=>[(1,pV b1 0),(2,iV 0),(51,.agg ((W.cells).toArray)),(52,iV ((xv:Nat):Int))]) (λxv wr=>(xv<=4)/\(∀ j,j<xv->dK (W.at j)=0)/\St w.heap.size w wr [.blk b1 (cZ ep nx gv (.slice A1 rs.length c1) (.slice A2 ls.length c2) W) 169,.rd 2 A1 rs.length ((rs).flatMap fV.cells),.rd 4 A2 ls.length ((ls).flatMap Ls.cells)]) (λxv=>4-xv) (0) ?_ ?_ ?_
 ·exact ⟨Nat.zero_le _,λj hj=>absurd hj (Nat.not_lt_zero _),S3⟩
 ·exact ⟨rfl,rfl,rfl,rfl,trivial⟩
 rintro k Jp ⟨ajP,Lm,mJ⟩
 try dsimp only at ajP Lm mJ
 refine bC (l':=[(1,pV b1 0),(2,iV 0),(51,.agg ((W.cells).toArray)),(52,iV ((k:Nat):Int))]) ⟨rfl,rfl,rfl,rfl,trivial⟩ (aK (aC ?_));by_cases h15:((k:Nat):Int)<4
 ·refine zN 11 ?_;refine vv (v:= .agg (((W.at k).cells).toArray)) (agl rfl rfl rfl (WT W k (by omega) _)) ?_;refine fF mJ ajJ ?_;intro b16 Jq iL;refine stA 0 iL EZ ?_ (h1:=IE _);intro Gc lT;refine zN 5 ?_;refine cab as2 lT (ET (W.at k) _) ?_;intro DL iW;refine zN 6 ?_;by_cases Qc:dK (W.at k)=0
  ·refine zN 8 ?_;refine vv (v:=iV ((k+1:Nat):Int)) gD ?_;refine zN 2 ?_;have jA:=iW.aS [0];refine aN (k+1) ?_ ⟨rfl,rfl,rfl,rfl,trivial⟩ (by first | omega | (dsimp only;omega));exact ⟨(by omega),(λj hj=>(Nat.lt_succ_iff_lt_or_eq.1 hj).elim (λh=>Lm j h) (λh=>by rw [h];exact Qc)),jA⟩
  refine zN 17 ?_;refine ⟨gQ ?_,iW.low⟩;rw [amB (j:=k) (by omega) Qc];exact (ahp _).resolve_left Qc
 refine zN 12 ?_;refine WR (k:=3) mJ (wn rfl) rfl rfl rfl ?_;intro Qe NC rH;have atM:zx W:=λj hj=>Lm j (by omega);refine zN 12 ?_;refine vv (aj rfl rfl (ay Tryz.underlying162 rfl (St.cl 1 rH rfl pz))) ?_;refine zN 5 ?_;refine dN (X:=Nat×Int) (λxv=>[(1,pV b1 0),(2,iV 0),(6,.map (some Qe)),(7,iV xv.2),(63,.slice A1 rs.length c1),(64,iV ((rs.length:Nat):Int)),(65,iV ((xv.1:Nat):Int))]) (λxv wr=>(xv.1<=rs.length)/\(jN nx (-1) rs=jN nx xv.2 (rs.drop xv.1))/\St w.heap.size w wr [.loc Qe (Lg Tryz.prog 3 ((rs.take xv.1).map (·.no))),.blk b1 (cZ ep nx gv (.slice A1 rs.length c1) (.slice A2 ls.length c2) W) 169,.rd 2 A1 rs.length ((rs).flatMap fV.cells),.rd 4 A2 ls.length ((ls).flatMap Ls.cells)]) (λxv=>rs.length-xv.1) (0,-1) ?_ ?_ ?_
 ·exact ⟨Nat.zero_le _,rfl,rH⟩
 ·exact ⟨rfl,rfl,rfl,rfl,rfl,rfl,rfl,trivial⟩
 rintro ⟨k,p⟩ RS ⟨IK,u6,kW⟩
 try dsimp only at IK u6 kW
 refine bC (l':=[(1,pV b1 0),(2,iV 0),(6,.map (some Qe)),(7,iV p),(63,.slice A1 rs.length c1),(64,iV ((rs.length:Nat):Int)),(65,iV ((k:Nat):Int))]) ⟨rfl,rfl,rfl,rfl,rfl,rfl,rfl,trivial⟩ (aK (aC ?_));by_cases h34:((k:Nat):Int)< ((rs.length:Nat):Int)
 ·refine zN 11 ?_;obtain ⟨b35,o36,rfl⟩:=Rd.addr (St.rd 2 kW rfl) (by omega);obtain ⟨x37,hx38⟩:=KG k (St.rd 2 kW rfl) (by omega);refine vv (jd k) ?_;refine vv (aj rfl rfl (aA (cs:=fV.cells x37) Tryz.underlying209 rfl E5 rfl (Rd.vQ (St.rd 2 kW rfl) (λ_ _ h=>aZ (enc:=fV.cells) (sz:=2) (λ_=>rfl) hx38 h)))) ?_;refine fF kW atC ?_;intro b39 w40 DN;refine sa 0 DN E5 ?_;intro UH qc;refine zN 7 ?_;refine dH anv (C9 ep nx gv _ _ W x37 _) ?_;rintro _ RQ ⟨rfl,atN⟩;refine ⟨_,rfl,?_⟩;have oH:=qc.on atN
  cases IL:(qW nx x37)
  ·refine zN 23 ?_;exact ⟨gQ (zy λh=>by rw [u6,JW hx38,IL] at h;exact absurd h.2.1 (by simp)).symm,oH.low⟩
  have ays:=wY IL;refine zN 5 ?_;by_cases h49:p<x37.no
  ·refine zN 18 ?_;refine vv (v:= .agg #[]) yz ?_;refine Nv (z:=x37.no) 1 oH (wn rfl) rfl rfl rfl rfl rfl rfl Tryz.underlying3 Tryz.underlying217 (by omega) (by simp [maxLen];omega) ?_;intro UL uy;rw [JX (f:=λm:fV=>m.no) hx38] at uy;refine zN 4 ?_;refine vv (v:=iV ((k+1:Nat):Int)) gD ?_;refine zN 2 ?_;have za:=uy.aS [0];refine aN (k+1,x37.no) ?_ ⟨rfl,rfl,rfl,rfl,rfl,rfl,rfl,trivial⟩ (by first | omega | (dsimp only;omega));exact ⟨(by dsimp only;omega),(by dsimp only;rw [u6,JW hx38,IL,decide_eq_true h49];rfl),za⟩
  refine zN 18 ?_;exact ⟨gQ (zy λh=>by rw [u6,JW hx38,decide_eq_false h49] at h;exact absurd h.2.1 (by simp)).symm,oH.low⟩
 refine zN 19 ?_;refine vv (aj rfl rfl (ay Tryz.underlying163 rfl (St.cl 1 kW rfl sZ))) ?_;refine zN 5 ?_;have atO:jN nx (-1) rs=true:=by rw [u6,List.drop_of_length_le (by omega)];rfl
 have uS:=kW;rw [List.take_of_length_le (show rs.length<=k by omega)] at uS;rw [<-List.append_nil (rs.map (·.no))] at uS;refine dN (X:=Nat×Int) (λxv=>[(1,pV b1 0),(2,iV 0),(6,.map (some Qe)),(7,iV xv.2),(87,.slice A2 ls.length c2),(88,iV ((ls.length:Nat):Int)),(89,iV ((xv.1:Nat):Int))]) (λxv wr=>(xv.1<=ls.length)/\(kV ep nx gv (-1) ls=kV ep nx gv xv.2 (ls.drop xv.1))/\St w.heap.size w wr [.loc Qe (Lg Tryz.prog 3 (rs.map (·.no)++(ls.take xv.1).map (·.msg.no))),.blk b1 (cZ ep nx gv (.slice A1 rs.length c1) (.slice A2 ls.length c2) W) 169,.rd 2 A1 rs.length ((rs).flatMap fV.cells),.rd 4 A2 ls.length ((ls).flatMap Ls.cells)]) (λxv=>ls.length-xv.1) (0,-1) ?_ ?_ ?_
 ·exact ⟨Nat.zero_le _,rfl,uS⟩
 ·exact ⟨rfl,rfl,rfl,rfl,rfl,rfl,rfl,trivial⟩
 rintro ⟨k,p⟩ w56 ⟨atP,Q5,pW⟩
 try dsimp only at atP Q5 pW
 refine bC (l':=[(1,pV b1 0),(2,iV 0),(6,.map (some Qe)),(7,iV p),(87,.slice A2 ls.length c2),(88,iV ((ls.length:Nat):Int)),(89,iV ((k:Nat):Int))]) ⟨rfl,rfl,rfl,rfl,rfl,rfl,rfl,trivial⟩ (aK (aC ?_));by_cases h60:((k:Nat):Int)< ((ls.length:Nat):Int)
 ·refine zN 11 ?_;obtain ⟨b61,o62,rfl⟩:=Rd.addr (St.rd 3 pW rfl) (by omega);obtain ⟨Yw,Q6⟩:=KG k (St.rd 3 pW rfl) (by omega);refine vv (jd k) ?_;refine vv (aj rfl rfl (aA (cs:=Ls.cells Yw) Tryz.underlying212 rfl Ic rfl (Rd.vQ (St.rd 3 pW rfl) (λ_ _ h=>aZ (enc:=Ls.cells) (sz:=4) (λ_=>rfl) Q6 h)))) ?_;refine fF pW anE ?_;intro b65 UK uz;refine sa 0 uz Ic ?_;intro w68 vI;refine zN 7 ?_;refine vv (aj rfl rfl (aA (cs:=[iV Yw.msg.no,iV Yw.msg.body]) Tryz.underlying209 rfl E5 rfl (St.rg 0 vI rfl (nS (x:=2) (m:=2) rfl)))) ?_;refine dH anv (C9 ep nx gv _ _ W Yw.msg _) ?_;rintro _ ZG ⟨rfl,atQ⟩;refine ⟨_,rfl,?_⟩;have rG:=vI.on atQ
  cases ajQ:(qW nx Yw.msg)
  ·refine zN 40 ?_;exact ⟨gQ (zy λh=>by rw [Q5,DK Q6,Lh,ajQ] at h;exact absurd h.2.2.1 (by simp)).symm,rG.low⟩
  have ayt:=wY ajQ;refine zN 6 ?_;refine vg (aj rfl rfl (ay Tryz.underlying3 rfl (St.cl 2 rG rfl xS))) ?_;by_cases h75:Yw.eD=ep
  ·refine zN 7 ?_;by_cases h76:p<Yw.hno
   ·refine zN 7 ?_;refine vg (aj rfl rfl (ay Tryz.underlying3 rfl (St.cl 2 rG rfl Aw))) ?_;by_cases h77:Yw.hno<gv
    ·refine zN 20 ?_;refine vv (v:= .agg #[]) yz ?_;refine Nv (z:=Yw.msg.no) 1 rG (wn rfl) rfl rfl rfl rfl rfl rfl Tryz.underlying3 Tryz.underlying217 (by omega) (by simp [maxLen];omega) ?_;intro w78 Bf;rw [List.append_assoc,JX (f:=λm:Ls=>m.msg.no) Q6] at Bf;refine zN 4 ?_;refine vv (v:=iV ((k+1:Nat):Int)) gD ?_;refine zN 2 ?_;have sN:=Bf.aS [0];refine aN (k+1,Yw.hno) ?_ ⟨rfl,rfl,rfl,rfl,rfl,rfl,rfl,trivial⟩ (by first | omega | (dsimp only;omega));exact ⟨(by dsimp only;omega),(by dsimp only;rw [Q5,DK Q6,Lh,ajQ,decide_eq_true ⟨by omega,by omega,by omega⟩];rfl),sN⟩
    refine zN 18 ?_;exact ⟨gQ (zy λh=>by rw [Q5,DK Q6,Lh,decide_eq_false (λh1=>h77 (h1.2.2)),Bool.and_false] at h;exact absurd h.2.2.1 (by simp)).symm,rG.low⟩
   refine zN 26 ?_;exact ⟨gQ (zy λh=>by rw [Q5,DK Q6,Lh,decide_eq_false (λh1=>h76 (h1.2.1)),Bool.and_false] at h;exact absurd h.2.2.1 (by simp)).symm,rG.low⟩
  refine zN 33 ?_;exact ⟨gQ (zy λh=>by rw [Q5,DK Q6,Lh,decide_eq_false (λh1=>h75 (h1.1)),Bool.and_false] at h;exact absurd h.2.2.1 (by simp)).symm,rG.low⟩
 refine zN 14 ?_;have atS:kV ep nx gv (-1) ls=true:=by rw [Q5,List.drop_of_length_le (by omega)];rfl
 have Bg:=pW;rw [List.take_of_length_le (show ls.length<=k by omega)] at Bg;change St _ _ _ [.loc Qe (Lg Tryz.prog 3 (nH rs ls)),.blk b1 (cZ ep nx gv (.slice A1 rs.length c1) (.slice A2 ls.length c2) W) 169,.rd 2 A1 rs.length ((rs).flatMap fV.cells),.rd 4 A2 ls.length ((ls).flatMap Ls.cells)] at Bg;obtain ⟨m84,atT,atU,ajR⟩:=adF 0 Bg rfl Tryz.underlying217 3;have hnl:(nH rs ls).length=rs.length+ls.length:=by simp [nH]
 rw [hnl] at atU ajR;refine vv (v:=iV ((m84:Nat):Int)) (qF (vs:=[.map (some Qe)]) rfl ⟨rfl,trivial⟩ atT) ?_;refine zQ ?_;refine vv (aj rfl rfl (ay Tryz.underlying162 rfl (St.cl 1 Bg rfl pz))) ?_;refine zN 2 ?_;refine vv (aj rfl rfl (ay Tryz.underlying163 rfl (St.cl 1 Bg rfl sZ))) ?_;refine zQ ?_;refine vv (v:=iV ((rs.length+ls.length:Nat):Int)) gD ?_;by_cases h88:((m84:Nat):Int)< ((rs.length+ls.length:Nat):Int)
 ·refine zN 12 ?_;exact ⟨gQ (zy λh=>ajR.1 (by omega) h.2.2.2).symm,Bg.low⟩
 refine zN 13 ?_;exact ⟨gQ (aqQ (by unfold QY;omega) atM atO atS (Classical.not_not.1 λh=>h88 (by have:=ajR.2 h;omega))).symm,Bg.low⟩
end Go.Proofs.YthhnonpehllibaaGreatDoor
