import Derived.Test.YthhnonpehllibaaGreatDoorG2a93c
import Derived.Test.YthhnonpehllibaaGreatDoorG693eb
set_option maxRecDepth 100000
set_option maxHeartbeats 8000000
set_option linter.unusedSimpArgs false
set_option linter.unusedVariables false
namespace Go.Proofs.YthhnonpehllibaaGreatDoor
open ChangeShapes WideShapes RowKit
theorem PO (ep nx gv:Int) (A1 A2:Option Addr) (c1 c2:Nat) (rs:List fT) (ls:List Ls) (W:jV) (w:World) (h1:Rd w w.heap.size 2 A1 rs.length (rs.flatMap fT.cells)) (h2:Rd w w.heap.size 4 A2 ls.length (ls.flatMap Ls.cells)) (hb1:rs.length*16<=reachBytes) (hb2:ls.length*32<=reachBytes):
    Calls Tryz.prog 113 #[.agg (cZ ep nx gv (.slice A1 rs.length c1) (.slice A2 ls.length c2) W)] w (Ve w (fP ep nx gv rs ls W)):=by
 unfold reachBytes at hb1 hb2;have S:=((St.start w).bV h2).bV h1;refine gB 140 Tryz.func113 ?_;refine cw [0] ?_;refine zN 2 ?_;refine iK S ?_;intro b1 w2 S3;refine zN 7 ?_;refine vv (aj rfl rfl (ay Tryz.underlying3 rfl (St.cl 0 S3 rfl xP))) ?_;by_cases h4:ep<0
 ·refine zN 47 ?_;exact ⟨gQ (BN (by omega)).symm,S3.low⟩
 refine zN 3 ?_;refine vg (aj rfl rfl (ay Tryz.underlying3 rfl (St.cl 0 S3 rfl xP))) ?_;by_cases h5:1048576<ep
 ·refine zN 43 ?_;exact ⟨gQ (BN (by omega)).symm,S3.low⟩
 refine zN 4 ?_;refine vg (aj rfl rfl (ay Tryz.underlying3 rfl (St.cl 0 S3 rfl Aj))) ?_;by_cases h6:nx<0
 ·refine zN 38 ?_;exact ⟨gQ (BN (by omega)).symm,S3.low⟩
 refine zN 4 ?_;refine vg (aj rfl rfl (ay Tryz.underlying3 rfl (St.cl 0 S3 rfl Aj))) ?_;by_cases h7:1073741824<nx
 ·refine zN 33 ?_;exact ⟨gQ (BN (by omega)).symm,S3.low⟩
 refine zN 4 ?_;refine vg (aj rfl rfl (ay Tryz.underlying3 rfl (St.cl 0 S3 rfl Ak))) ?_;by_cases h8:gv<0
 ·refine zN 28 ?_;exact ⟨gQ (BN (by omega)).symm,S3.low⟩
 refine zN 4 ?_;refine vg (aj rfl rfl (ay Tryz.underlying3 rfl (St.cl 0 S3 rfl Ak))) ?_;by_cases h9:1073741824<gv
 ·refine zN 23 ?_;exact ⟨gQ (BN (by omega)).symm,S3.low⟩
 refine zN 4 ?_;refine vg (aj rfl rfl (ay Tryz.underlying162 rfl (St.cl 0 S3 rfl oW))) ?_;refine zN 2 ?_;refine vg (aj rfl rfl (ay Tryz.underlying163 rfl (St.cl 0 S3 rfl sN))) ?_;refine zQ ?_;refine vg (v:=iV ((rs.length+ls.length:Nat):Int)) gN ?_;by_cases h10:500< ((rs.length+ls.length:Nat):Int)
 ·refine zN 13 ?_;exact ⟨gQ (BN (by omega)).symm,S3.low⟩
 refine zN 11 ?_;refine vv (aj rfl rfl (aA (cs:=(W.cells)) Tryz.underlying167 rfl ajO rfl (St.rg 0 S3 rfl (ah9)))) ?_;refine zN 4 ?_;refine dW (X:=Nat) (λxv=>[(1,pV b1 0),(2,iV 0),(51,.agg ((W.cells).toArray)),(52,iV ((xv:Nat):Int))]) (λxv wr=>(xv<=4)/\(∀ j,j<xv->dG (W.at j)=0)/\St w.heap.size w wr [.blk b1 (cZ ep nx gv (.slice A1 rs.length c1) (.slice A2 ls.length c2) W) 169,.rd 2 A1 rs.length ((rs).flatMap fT.cells),.rd 4 A2 ls.length ((ls).flatMap Ls.cells)]) (λxv=>4-xv) (0) ?_ ?_ ?_
 ·exact ⟨Nat.zero_le _,λj hj=>absurd hj (Nat.not_lt_zero _),S3⟩
 ·exact ⟨rfl,rfl,rfl,rfl,trivial⟩
 rintro k Jd ⟨ali,La,mF⟩
 try dsimp only at ali La mF
 refine bC (l':=[(1,pV b1 0),(2,iV 0),(51,.agg ((W.cells).toArray)),(52,iV ((k:Nat):Int))]) ⟨rfl,rfl,rfl,rfl,trivial⟩ (aQ (aC ?_));by_cases h15:((k:Nat):Int)<4
 ·refine zN 11 ?_;refine vv (v:= .agg (((W.at k).cells).toArray)) (ahh rfl rfl rfl (WA W k (by omega) _)) ?_;refine fF mF alc ?_;intro b16 Ku jc;refine stA 0 jc EL ?_ (h1:=Io _);intro FX lQ;refine zN 5 ?_;refine cab axk lQ (EF (W.at k) _) ?_;intro Dq iR;refine zN 6 ?_;by_cases PS:dG (W.at k)=0
  ·refine zN 8 ?_;refine vv (v:=iV ((k+1:Nat):Int)) gN ?_;refine zN 2 ?_;have jv:=iR.aR [0];refine aS (k+1) ?_ ⟨rfl,rfl,rfl,rfl,trivial⟩ (by first | omega | (dsimp only;omega));exact ⟨(by omega),(λj hj=>(Nat.lt_succ_iff_lt_or_eq.1 hj).elim (λh=>La j h) (λh=>by rw [h];exact PS)),jv⟩
  refine zN 17 ?_;refine ⟨gQ ?_,iR.low⟩;rw [aof (j:=k) (by omega) PS];exact (aio _).resolve_left PS
 refine zN 12 ?_;refine Wy (k:=3) mF (wn rfl) rfl rfl rfl ?_;intro Zq Ni rF;have ax4:zi W:=λj hj=>La j (by omega);refine zN 12 ?_;refine vv (aj rfl rfl (ay Tryz.underlying162 rfl (St.cl 1 rF rfl oW))) ?_;refine zN 5 ?_;refine dW (X:=Nat×Int) (λxv=>[(1,pV b1 0),(2,iV 0),(6,.map (some Zq)),(7,iV xv.2),(63,.slice A1 rs.length c1),(64,iV ((rs.length:Nat):Int)),(65,iV ((xv.1:Nat):Int))]) (λxv wr=>(xv.1<=rs.length)/\(jL nx (-1) rs=jL nx xv.2 (rs.drop xv.1))/\St w.heap.size w wr [.loc Zq (K5 Tryz.prog 3 ((rs.take xv.1).map (·.no))),.blk b1 (cZ ep nx gv (.slice A1 rs.length c1) (.slice A2 ls.length c2) W) 169,.rd 2 A1 rs.length ((rs).flatMap fT.cells),.rd 4 A2 ls.length ((ls).flatMap Ls.cells)]) (λxv=>rs.length-xv.1) (0,-1) ?_ ?_ ?_
 ·exact ⟨Nat.zero_le _,rfl,rF⟩
 ·exact ⟨rfl,rfl,rfl,rfl,rfl,rfl,rfl,trivial⟩
 rintro ⟨k,p⟩ Ru ⟨Iu,xD,kU⟩
 try dsimp only at Iu xD kU
 refine bC (l':=[(1,pV b1 0),(2,iV 0),(6,.map (some Zq)),(7,iV p),(63,.slice A1 rs.length c1),(64,iV ((rs.length:Nat):Int)),(65,iV ((k:Nat):Int))]) ⟨rfl,rfl,rfl,rfl,rfl,rfl,rfl,trivial⟩ (aQ (aC ?_));by_cases h34:((k:Nat):Int)< ((rs.length:Nat):Int)
 ·refine zN 11 ?_;obtain ⟨b35,o36,rfl⟩:=Rd.addr (St.rd 2 kU rfl) (by omega);obtain ⟨x37,hx38⟩:=L6 k (St.rd 2 kU rfl) (by omega);refine vv (jh k) ?_;refine vv (aj rfl rfl (aA (cs:=fT.cells x37) Tryz.underlying209 rfl EM rfl (Rd.vM (St.rd 2 kU rfl) (λ_ _ h=>bg (enc:=fT.cells) (sz:=2) (λ_=>rfl) hx38 h)))) ?_;refine fF kU axU ?_;intro b39 w40 Je;refine sa 0 Je EM ?_;intro Uq p9;refine zN 7 ?_;refine dI apK (Cz ep nx gv _ _ W x37 _) ?_;rintro _ Rt ⟨rfl,ax5⟩;refine ⟨_,rfl,?_⟩;have oD:=p9.on ax5
  cases Iw:(qU nx x37)
  ·refine zN 23 ?_;exact ⟨gQ (zk λh=>by rw [xD,JG hx38,Iw] at h;exact absurd h.2.1 (by simp)).symm,oD.low⟩
  have aDJ:=wW Iw;refine zN 5 ?_;by_cases h49:p<x37.no
  ·refine zN 18 ?_;refine vv (v:= .agg #[]) yz ?_;refine Nc (z:=x37.no) 1 oD (wn rfl) rfl rfl rfl rfl rfl rfl Tryz.underlying3 Tryz.underlying217 (by omega) (by simp [maxLen];omega) ?_;intro Uu tZ;rw [JH (f:=λm:fT=>m.no) hx38] at tZ;refine zN 4 ?_;refine vv (v:=iV ((k+1:Nat):Int)) gN ?_;refine zN 2 ?_;have yR:=tZ.aR [0];refine aS (k+1,x37.no) ?_ ⟨rfl,rfl,rfl,rfl,rfl,rfl,rfl,trivial⟩ (by first | omega | (dsimp only;omega));exact ⟨(by dsimp only;omega),(by dsimp only;rw [xD,JG hx38,Iw,decide_eq_true h49];rfl),yR⟩
  refine zN 18 ?_;exact ⟨gQ (zk λh=>by rw [xD,JG hx38,decide_eq_false h49] at h;exact absurd h.2.1 (by simp)).symm,oD.low⟩
 refine zN 19 ?_;refine vv (aj rfl rfl (ay Tryz.underlying163 rfl (St.cl 1 kU rfl sN))) ?_;refine zN 5 ?_;have ax6:jL nx (-1) rs=true:=by rw [xD,List.drop_of_length_le (by omega)];rfl
 have uK:=kU;rw [List.take_of_length_le (show rs.length<=k by omega)] at uK;rw [<-List.append_nil (rs.map (·.no))] at uK;refine dW (X:=Nat×Int) (λxv=>[(1,pV b1 0),(2,iV 0),(6,.map (some Zq)),(7,iV xv.2),(87,.slice A2 ls.length c2),(88,iV ((ls.length:Nat):Int)),(89,iV ((xv.1:Nat):Int))]) (λxv wr=>(xv.1<=ls.length)/\(kT ep nx gv (-1) ls=kT ep nx gv xv.2 (ls.drop xv.1))/\St w.heap.size w wr [.loc Zq (K5 Tryz.prog 3 (rs.map (·.no)++(ls.take xv.1).map (·.msg.no))),.blk b1 (cZ ep nx gv (.slice A1 rs.length c1) (.slice A2 ls.length c2) W) 169,.rd 2 A1 rs.length ((rs).flatMap fT.cells),.rd 4 A2 ls.length ((ls).flatMap Ls.cells)]) (λxv=>ls.length-xv.1) (0,-1) ?_ ?_ ?_
 ·exact ⟨Nat.zero_le _,rfl,uK⟩
 ·exact ⟨rfl,rfl,rfl,rfl,rfl,rfl,rfl,trivial⟩
 rintro ⟨k,p⟩ w56 ⟨ax7,QH,qH⟩
 try dsimp only at ax7 QH qH
 refine bC (l':=[(1,pV b1 0),(2,iV 0),(6,.map (some Zq)),(7,iV p),(87,.slice A2 ls.length c2),(88,iV ((ls.length:Nat):Int)),(89,iV ((k:Nat):Int))]) ⟨rfl,rfl,rfl,rfl,rfl,rfl,rfl,trivial⟩ (aQ (aC ?_));by_cases h60:((k:Nat):Int)< ((ls.length:Nat):Int)
 ·refine zN 11 ?_;obtain ⟨b61,o62,rfl⟩:=Rd.addr (St.rd 3 qH rfl) (by omega);obtain ⟨Yh,QJ⟩:=L6 k (St.rd 3 qH rfl) (by omega);refine vv (jh k) ?_;refine vv (aj rfl rfl (aA (cs:=Ls.cells Yh) Tryz.underlying212 rfl Hy rfl (Rd.vM (St.rd 3 qH rfl) (λ_ _ h=>bg (enc:=Ls.cells) (sz:=4) (λ_=>rfl) QJ h)))) ?_;refine fF qH apT ?_;intro b65 Ut uf;refine sa 0 uf Hy ?_;intro w68 vC;refine zN 7 ?_;refine vv (aj rfl rfl (aA (cs:=[iV Yh.msg.no,iV Yh.msg.body]) Tryz.underlying209 rfl EM rfl (St.rg 0 vC rfl (nP (x:=2) (m:=2) rfl)))) ?_;refine dI apK (Cz ep nx gv _ _ W Yh.msg _) ?_;rintro _ Zo ⟨rfl,ax8⟩;refine ⟨_,rfl,?_⟩;have rE:=vC.on ax8
  cases alj:(qU nx Yh.msg)
  ·refine zN 40 ?_;exact ⟨gQ (zk λh=>by rw [QH,Dp QJ,K6,alj] at h;exact absurd h.2.2.1 (by simp)).symm,rE.low⟩
  have aDK:=wW alj;refine zN 6 ?_;refine vg (aj rfl rfl (ay Tryz.underlying3 rfl (St.cl 2 rE rfl xP))) ?_;by_cases h75:Yh.dZ=ep
  ·refine zN 7 ?_;by_cases h76:p<Yh.hno
   ·refine zN 7 ?_;refine vg (aj rfl rfl (ay Tryz.underlying3 rfl (St.cl 2 rE rfl Ak))) ?_;by_cases h77:Yh.hno<gv
    ·refine zN 20 ?_;refine vv (v:= .agg #[]) yz ?_;refine Nc (z:=Yh.msg.no) 1 rE (wn rfl) rfl rfl rfl rfl rfl rfl Tryz.underlying3 Tryz.underlying217 (by omega) (by simp [maxLen];omega) ?_;intro w78 AQ;rw [List.append_assoc,JH (f:=λm:Ls=>m.msg.no) QJ] at AQ;refine zN 4 ?_;refine vv (v:=iV ((k+1:Nat):Int)) gN ?_;refine zN 2 ?_;have sF:=AQ.aR [0];refine aS (k+1,Yh.hno) ?_ ⟨rfl,rfl,rfl,rfl,rfl,rfl,rfl,trivial⟩ (by first | omega | (dsimp only;omega));exact ⟨(by dsimp only;omega),(by dsimp only;rw [QH,Dp QJ,K6,alj,decide_eq_true ⟨by omega,by omega,by omega⟩];rfl),sF⟩
    refine zN 18 ?_;exact ⟨gQ (zk λh=>by rw [QH,Dp QJ,K6,decide_eq_false (λh1=>h77 (h1.2.2)),Bool.and_false] at h;exact absurd h.2.2.1 (by simp)).symm,rE.low⟩
   refine zN 26 ?_;exact ⟨gQ (zk λh=>by rw [QH,Dp QJ,K6,decide_eq_false (λh1=>h76 (h1.2.1)),Bool.and_false] at h;exact absurd h.2.2.1 (by simp)).symm,rE.low⟩
  refine zN 33 ?_;exact ⟨gQ (zk λh=>by rw [QH,Dp QJ,K6,decide_eq_false (λh1=>h75 (h1.1)),Bool.and_false] at h;exact absurd h.2.2.1 (by simp)).symm,rE.low⟩
 refine zN 14 ?_;have ax9:kT ep nx gv (-1) ls=true:=by rw [QH,List.drop_of_length_le (by omega)];rfl
 have AU:=qH;rw [List.take_of_length_le (show ls.length<=k by omega)] at AU;change St _ _ _ [.loc Zq (K5 Tryz.prog 3 (nE rs ls)),.blk b1 (cZ ep nx gv (.slice A1 rs.length c1) (.slice A2 ls.length c2) W) 169,.rd 2 A1 rs.length ((rs).flatMap fT.cells),.rd 4 A2 ls.length ((ls).flatMap Ls.cells)] at AU;obtain ⟨m84,aya,ayb,alk⟩:=ad7 0 AU rfl Tryz.underlying217 3;have hnl:(nE rs ls).length=rs.length+ls.length:=by simp [nE]
 rw [hnl] at ayb alk;refine vv (v:=iV ((m84:Nat):Int)) (qC (vs:=[.map (some Zq)]) rfl ⟨rfl,trivial⟩ aya) ?_;refine zQ ?_;refine vv (aj rfl rfl (ay Tryz.underlying162 rfl (St.cl 1 AU rfl oW))) ?_;refine zN 2 ?_;refine vv (aj rfl rfl (ay Tryz.underlying163 rfl (St.cl 1 AU rfl sN))) ?_;refine zQ ?_;refine vv (v:=iV ((rs.length+ls.length:Nat):Int)) gN ?_;by_cases h88:((m84:Nat):Int)< ((rs.length+ls.length:Nat):Int)
 ·refine zN 12 ?_;exact ⟨gQ (zk λh=>alk.1 (by omega) h.2.2.2).symm,AU.low⟩
 refine zN 13 ?_;exact ⟨gQ (atX (by unfold QE;omega) ax4 ax6 ax9 (Classical.not_not.1 λh=>h88 (by have:=alk.2 h;omega))).symm,AU.low⟩
end Go.Proofs.YthhnonpehllibaaGreatDoor
