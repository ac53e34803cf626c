/- Parts of proofs: lemmas on memory, on single functions and on the plain models; no condition of their own. -/
import Derived.Test.YtbffmhpkenoogaaGreatDoorG6893ca8dd176
import Derived.Test.YtbffmhpkenoogaaGreatDoorGc8161b1d0fcb
set_option linter.unusedVariables false
set_option linter.unusedSimpArgs false
set_option linter.unnecessarySimpa false
set_option maxRecDepth 100000
set_option maxHeartbeats 8000000

namespace Go.Proofs.YtbffmhpkenoogaaGreatDoor
open Go.ChangeShapes Go.WideShapes Go.RowKit
theorem Md (ep nx gv:Int) (A1 A2:Option Addr) (c1 c2:Nat) (rs:List fP) (ls:List Ls) (W:jP) (w:World) (h1:Rd w w.heap.size 2 A1 rs.length (rs.flatMap fP.cells)) (h2:Rd w w.heap.size 4 A2 ls.length (ls.flatMap Ls.cells)) (hb1:rs.length*16≤reachBytes) (hb2:ls.length*32≤reachBytes):
    Calls Tryz.prog 52 #[.agg (bV ep nx gv (.slice A1 rs.length c1) (.slice A2 ls.length c2) W)] w (Q0 w (iL ep nx gv rs ls W)):=by
 unfold reachBytes at hb1 hb2;have S:=((St.start w).bH h2).bH h1;refine fE 140 Tryz.func52 ?_;refine cw [0] ?_;iterate 2 refine zQ ?_
 refine gD S ?_;intro b1 w2 S3;iterate 7 refine zQ ?_
 refine vv (aj rfl rfl (aA Tryz.underlying3 rfl (St.cl 0 S3 rfl vS))) ?_;by_cases h4:ep<0
 ·iterate 47 refine zQ ?_
  exact ⟨fQ (zI (by omega)).symm,S3.low⟩
 iterate 3 refine zQ ?_
 refine vg (aj rfl rfl (aA Tryz.underlying3 rfl (St.cl 0 S3 rfl vS))) ?_;by_cases h5:1048576<ep
 ·iterate 43 refine zQ ?_
  exact ⟨fQ (zI (by omega)).symm,S3.low⟩
 iterate 4 refine zQ ?_
 refine vg (aj rfl rfl (aA Tryz.underlying3 rfl (St.cl 0 S3 rfl yD))) ?_;by_cases h6:nx<0
 ·iterate 38 refine zQ ?_
  exact ⟨fQ (zI (by omega)).symm,S3.low⟩
 iterate 4 refine zQ ?_
 refine vg (aj rfl rfl (aA Tryz.underlying3 rfl (St.cl 0 S3 rfl yD))) ?_;by_cases h7:1073741824<nx
 ·iterate 33 refine zQ ?_
  exact ⟨fQ (zI (by omega)).symm,S3.low⟩
 iterate 4 refine zQ ?_
 refine vg (aj rfl rfl (aA Tryz.underlying3 rfl (St.cl 0 S3 rfl yE))) ?_;by_cases h8:gv<0
 ·iterate 28 refine zQ ?_
  exact ⟨fQ (zI (by omega)).symm,S3.low⟩
 iterate 4 refine zQ ?_
 refine vg (aj rfl rfl (aA Tryz.underlying3 rfl (St.cl 0 S3 rfl yE))) ?_;by_cases h9:1073741824<gv
 ·iterate 23 refine zQ ?_
  exact ⟨fQ (zI (by omega)).symm,S3.low⟩
 iterate 4 refine zQ ?_
 refine vg (aj rfl rfl (aA Tryz.underlying50 rfl (St.cl 0 S3 rfl nX))) ?_;iterate 2 refine zQ ?_
 refine vg (aj rfl rfl (aA Tryz.underlying51 rfl (St.cl 0 S3 rfl rA))) ?_;refine zQ ?_;refine vg (v:=iV ((rs.length+ls.length:Nat):Int)) jv ?_;by_cases h10:500< ((rs.length+ls.length:Nat):Int)
 ·iterate 13 refine zQ ?_
  exact ⟨fQ (zI (by omega)).symm,S3.low⟩
 iterate 11 refine zQ ?_
 refine vv (aj rfl rfl (aG (cs:=(W.cells)) Tryz.underlying55 rfl af7 rfl (St.rg 0 S3 rfl (aeD)))) ?_;iterate 4 refine zQ ?_
 refine fH (X:=Nat) (fun xv=>[(1,pV b1 0),(2,iV 0),(51,.agg ((W.cells).toArray)),(52,iV ((xv:Nat):Int))]) (fun xv wr=>(xv≤4)∧(∀ j,j<xv→eB (W.at j)=0)∧St w.heap.size w wr [.blk b1 (bV ep nx gv (.slice A1 rs.length c1) (.slice A2 ls.length c2) W) 57,.rd 2 A1 rs.length ((rs).flatMap fP.cells),.rd 4 A2 ls.length ((ls).flatMap Ls.cells)]) (fun xv=>4-xv) (0) ?_ ?_ ?_
 ·exact ⟨Nat.zero_le _,fun j hj=>absurd hj (Nat.not_lt_zero _),S3⟩
 ·exact ⟨rfl,rfl,rfl,rfl,trivial⟩
 rintro k Ee ⟨ahE,Ik,lq⟩
 try dsimp only at ahE Ik lq
 refine bq (l':=[(1,pV b1 0),(2,iV 0),(51,.agg ((W.cells).toArray)),(52,iV ((k:Nat):Int))]) ⟨rfl,rfl,rfl,rfl,trivial⟩ (aW (aO ?_));by_cases V3:((k:Nat):Int)<4
 ·iterate 11 refine zQ ?_
  refine vv (v:= .agg (((W.at k).cells).toArray)) (adG rfl rfl rfl (SK W k (by omega) _)) ?_;refine eU lq ahi ?_;intro b16 JR iD;refine stA 0 iD Ct ?_ (h1:=EW _);intro zJ kr;iterate 5 refine zQ ?_
  refine cab asL kr (Cm (W.at k) _) ?_;intro Bh ig;iterate 6 refine zQ ?_
  by_cases Me:eB (W.at k)=0
  ·iterate 8 refine zQ ?_
   refine vv (v:=iV ((k+1:Nat):Int)) jv ?_;iterate 2 refine zQ ?_
   have iX:=ig.aR [0];refine bY (k+1) ?_ ⟨rfl,rfl,rfl,rfl,trivial⟩ (by first | omega | (dsimp only;omega));exact ⟨(by omega),(fun j hj=>(Nat.lt_succ_iff_lt_or_eq.1 hj).elim (fun h=>Ik j h) (fun h=>by rw [h];exact Me)),iX⟩
  iterate 17 refine zQ ?_
  refine ⟨fQ ?_,ig.low⟩;rw [akh (j:=k) (by omega) Me];exact (aeO _).resolve_left Me
 iterate 12 refine zQ ?_
 refine SH (k:=3) lq (wn rfl) rfl rfl rfl ?_;intro Wt JV qM;have aua:FN W:=fun j hj=>Ik j (by omega)
 iterate 12 refine zQ ?_
 refine vv (aj rfl rfl (aA Tryz.underlying50 rfl (St.cl 1 qM rfl nX))) ?_;iterate 5 refine zQ ?_
 refine fH (X:=Nat×Int) (fun xv=>[(1,pV b1 0),(2,iV 0),(6,.map (some Wt)),(7,iV xv.2),(63,.slice A1 rs.length c1),(64,iV ((rs.length:Nat):Int)),(65,iV ((xv.1:Nat):Int))]) (fun xv wr=>(xv.1≤rs.length)∧(lH nx (-1) rs=lH nx xv.2 (rs.drop xv.1))∧St w.heap.size w wr [.loc Wt (Ib Tryz.prog 3 ((rs.take xv.1).map (·.no))),.blk b1 (bV ep nx gv (.slice A1 rs.length c1) (.slice A2 ls.length c2) W) 57,.rd 2 A1 rs.length ((rs).flatMap fP.cells),.rd 4 A2 ls.length ((ls).flatMap Ls.cells)]) (fun xv=>rs.length-xv.1) (0,-1) ?_ ?_ ?_
 ·exact ⟨Nat.zero_le _,rfl,qM⟩
 ·exact ⟨rfl,rfl,rfl,rfl,rfl,rfl,rfl,trivial⟩
 rintro ⟨k,p⟩ V4 ⟨E9,vK,mF⟩
 try dsimp only at E9 vK mF
 refine bq (l':=[(1,pV b1 0),(2,iV 0),(6,.map (some Wt)),(7,iV p),(63,.slice A1 rs.length c1),(64,iV ((rs.length:Nat):Int)),(65,iV ((k:Nat):Int))]) ⟨rfl,rfl,rfl,rfl,rfl,rfl,rfl,trivial⟩ (aW (aO ?_));by_cases h34:((k:Nat):Int)< ((rs.length:Nat):Int)
 ·iterate 11 refine zQ ?_
  obtain ⟨ZA,o36,rfl⟩:=Rd.addr (St.rd 2 mF rfl) (by omega);obtain ⟨x37,hx38⟩:=FK k (St.rd 2 mF rfl) (by omega);refine vv (gM k) ?_;refine vv (aj rfl rfl (aG (cs:=fP.cells x37) Tryz.underlying88 rfl Cu rfl (Rd.uN (St.rd 2 mF rfl) (fun _ _ h=>bS (enc:=fP.cells) (sz:=2) (fun _=>rfl) hx38 h)))) ?_;refine eU mF ath ?_;intro b39 UH xU;refine sa 0 xU Cu ?_;intro Ux tu;iterate 7 refine zQ ?_
  refine dO alM (Ap ep nx gv _ _ W x37 _) ?_;rintro _ L9 ⟨rfl,aub⟩;refine ⟨_,rfl,?_⟩;have mW:=tu.on aub
  cases Rh:(uX nx x37)
  ·iterate 23 refine zQ ?_
   exact ⟨fQ (xE fun h=>by rw [vK,Gd hx38,Rh] at h;exact absurd h.2.1 (by simp)).symm,mW.low⟩
  have ayY:=NJ Rh;iterate 5 refine zQ ?_
  by_cases h49:p<x37.no
  ·refine zQ ?_;refine zQ ?_;refine zQ ?_;iterate 6 refine zQ ?_
   refine zQ ?_;refine zQ ?_;refine zQ ?_;refine zQ ?_;iterate 2 refine zQ ?_
   refine zQ ?_;refine zQ ?_;refine zQ ?_;refine vv (v:= .agg #[]) yz ?_;refine JI (z:=x37.no) 1 mW (wn rfl) rfl rfl rfl rfl rfl rfl Tryz.underlying3 Tryz.underlying188 (by omega) (by simp [maxLen];omega) ?_;intro Qw sw;rw [Gf (f:=fun m:fP=>m.no) hx38] at sw;iterate 4 refine zQ ?_
   refine vv (v:=iV ((k+1:Nat):Int)) jv ?_;iterate 2 refine zQ ?_
   have vG:=sw.aR [0];refine bY (k+1,x37.no) ?_ ⟨rfl,rfl,rfl,rfl,rfl,rfl,rfl,trivial⟩ (by first | omega | (dsimp only;omega));exact ⟨(by dsimp only;omega),(by dsimp only;rw [vK,Gd hx38,Rh,decide_eq_true h49];rfl),vG⟩
  iterate 18 refine zQ ?_
  exact ⟨fQ (xE fun h=>by rw [vK,Gd hx38,decide_eq_false h49] at h;exact absurd h.2.1 (by simp)).symm,mW.low⟩
 iterate 19 refine zQ ?_
 refine vv (aj rfl rfl (aA Tryz.underlying51 rfl (St.cl 1 mF rfl rA))) ?_;iterate 5 refine zQ ?_
 have auc:lH nx (-1) rs=true:=by rw [vK,List.drop_of_length_le (by omega)];rfl
 have xk:=mF;rw [List.take_of_length_le (show rs.length≤k by omega)] at xk;rw [←List.append_nil (rs.map (·.no))] at xk;refine fH (X:=Nat×Int) (fun xv=>[(1,pV b1 0),(2,iV 0),(6,.map (some Wt)),(7,iV xv.2),(87,.slice A2 ls.length c2),(88,iV ((ls.length:Nat):Int)),(89,iV ((xv.1:Nat):Int))]) (fun xv wr=>(xv.1≤ls.length)∧(nK ep nx gv (-1) ls=nK ep nx gv xv.2 (ls.drop xv.1))∧St w.heap.size w wr [.loc Wt (Ib Tryz.prog 3 (rs.map (·.no)++(ls.take xv.1).map (·.msg.no))),.blk b1 (bV ep nx gv (.slice A1 rs.length c1) (.slice A2 ls.length c2) W) 57,.rd 2 A1 rs.length ((rs).flatMap fP.cells),.rd 4 A2 ls.length ((ls).flatMap Ls.cells)]) (fun xv=>ls.length-xv.1) (0,-1) ?_ ?_ ?_
 ·exact ⟨Nat.zero_le _,rfl,xk⟩
 ·exact ⟨rfl,rfl,rfl,rfl,rfl,rfl,rfl,trivial⟩
 rintro ⟨k,p⟩ w56 ⟨aud,M8,sF⟩
 try dsimp only at aud M8 sF
 refine bq (l':=[(1,pV b1 0),(2,iV 0),(6,.map (some Wt)),(7,iV p),(87,.slice A2 ls.length c2),(88,iV ((ls.length:Nat):Int)),(89,iV ((k:Nat):Int))]) ⟨rfl,rfl,rfl,rfl,rfl,rfl,rfl,trivial⟩ (aW (aO ?_));by_cases h60:((k:Nat):Int)< ((ls.length:Nat):Int)
 ·iterate 11 refine zQ ?_
  obtain ⟨b61,o62,rfl⟩:=Rd.addr (St.rd 3 sF rfl) (by omega);obtain ⟨UL,M9⟩:=FK k (St.rd 3 sF rfl) (by omega);refine vv (gM k) ?_;refine vv (aj rfl rfl (aG (cs:=Ls.cells UL) Tryz.underlying90 rfl EB rfl (Rd.uN (St.rd 3 sF rfl) (fun _ _ h=>bS (enc:=Ls.cells) (sz:=4) (fun _=>rfl) M9 h)))) ?_;refine eU sF alV ?_;intro b65 NP oN;refine sa 0 oN EB ?_;intro w68 xg;iterate 7 refine zQ ?_
  refine vv (aj rfl rfl (aG (cs:=[iV UL.msg.no,iV UL.msg.body]) Tryz.underlying88 rfl Cu rfl (St.rg 0 xg rfl (mR (x:=2) (m:=2) rfl)))) ?_;refine dO alM (Ap ep nx gv _ _ W UL.msg _) ?_;rintro _ UA ⟨rfl,aue⟩;refine ⟨_,rfl,?_⟩;have qh:=xg.on aue
  cases ahF:(uX nx UL.msg)
  ·iterate 40 refine zQ ?_
   exact ⟨fQ (xE fun h=>by rw [M8,Bf M9,JK,ahF] at h;exact absurd h.2.2.1 (by simp)).symm,qh.low⟩
  have ayZ:=NJ ahF;iterate 6 refine zQ ?_
  refine vg (aj rfl rfl (aA Tryz.underlying3 rfl (St.cl 2 qh rfl vS))) ?_;by_cases h75:UL.gG=ep
  ·iterate 7 refine zQ ?_
   by_cases h76:p<UL.hno
   ·iterate 7 refine zQ ?_
    refine vg (aj rfl rfl (aA Tryz.underlying3 rfl (St.cl 2 qh rfl yE))) ?_;by_cases h77:UL.hno<gv
    ·refine zQ ?_;refine zQ ?_;refine zQ ?_;iterate 6 refine zQ ?_
     refine zQ ?_;refine zQ ?_;refine zQ ?_;refine zQ ?_;refine zQ ?_;iterate 2 refine zQ ?_
     refine zQ ?_;refine zQ ?_;refine zQ ?_;refine zQ ?_;refine vv (v:= .agg #[]) yz ?_;refine JI (z:=UL.msg.no) 1 qh (wn rfl) rfl rfl rfl rfl rfl rfl Tryz.underlying3 Tryz.underlying188 (by omega) (by simp [maxLen];omega) ?_;intro w78 Aq;rw [List.append_assoc,Gf (f:=fun m:Ls=>m.msg.no) M9] at Aq;iterate 4 refine zQ ?_
     refine vv (v:=iV ((k+1:Nat):Int)) jv ?_;iterate 2 refine zQ ?_
     have pF:=Aq.aR [0];refine bY (k+1,UL.hno) ?_ ⟨rfl,rfl,rfl,rfl,rfl,rfl,rfl,trivial⟩ (by first | omega | (dsimp only;omega));exact ⟨(by dsimp only;omega),(by dsimp only;rw [M8,Bf M9,JK,ahF,decide_eq_true ⟨by omega,by omega,by omega⟩];rfl),pF⟩
    iterate 18 refine zQ ?_
    exact ⟨fQ (xE fun h=>by rw [M8,Bf M9,JK,decide_eq_false (fun h1=>h77 (h1.2.2)),Bool.and_false] at h;exact absurd h.2.2.1 (by simp)).symm,qh.low⟩
   iterate 26 refine zQ ?_
   exact ⟨fQ (xE fun h=>by rw [M8,Bf M9,JK,decide_eq_false (fun h1=>h76 (h1.2.1)),Bool.and_false] at h;exact absurd h.2.2.1 (by simp)).symm,qh.low⟩
  iterate 33 refine zQ ?_
  exact ⟨fQ (xE fun h=>by rw [M8,Bf M9,JK,decide_eq_false (fun h1=>h75 (h1.1)),Bool.and_false] at h;exact absurd h.2.2.1 (by simp)).symm,qh.low⟩
 iterate 14 refine zQ ?_
 have auf:nK ep nx gv (-1) ls=true:=by rw [M8,List.drop_of_length_le (by omega)];rfl
 have uj:=sF;rw [List.take_of_length_le (show ls.length≤k by omega)] at uj;change St _ _ _ [.loc Wt (Ib Tryz.prog 3 (yF rs ls)),.blk b1 (bV ep nx gv (.slice A1 rs.length c1) (.slice A2 ls.length c2) W) 57,.rd 2 A1 rs.length ((rs).flatMap fP.cells),.rd 4 A2 ls.length ((ls).flatMap Ls.cells)] at uj;obtain ⟨m84,aug,auh,ahG⟩:=aaJ 0 uj rfl Tryz.underlying188 3;have hnl:(yF rs ls).length=rs.length+ls.length:=by simp [yF]
 rw [hnl] at auh ahG;refine vv (v:=iV ((m84:Nat):Int)) (rW (vs:=[.map (some Wt)]) rfl ⟨rfl,trivial⟩ aug) ?_;refine zQ ?_;refine vv (aj rfl rfl (aA Tryz.underlying50 rfl (St.cl 1 uj rfl nX))) ?_;iterate 2 refine zQ ?_
 refine vv (aj rfl rfl (aA Tryz.underlying51 rfl (St.cl 1 uj rfl rA))) ?_;refine zQ ?_;refine vv (v:=iV ((rs.length+ls.length:Nat):Int)) jv ?_;by_cases h88:((m84:Nat):Int)< ((rs.length+ls.length:Nat):Int)
 ·iterate 12 refine zQ ?_
  exact ⟨fQ (xE fun h=>ahG.1 (by omega) h.2.2.2).symm,uj.low⟩
 iterate 13 refine zQ ?_
 exact ⟨fQ (apH (by unfold Q5;omega) aua auc auf (Classical.not_not.1 fun h=>h88 (by have:=ahG.2 h;omega))).symm,uj.low⟩
end Go.Proofs.YtbffmhpkenoogaaGreatDoor
