/- Parts of proofs: lemmas on memory, on single functions and on the plain models; no condition of their own. -/
import Derived.Test.YtbffmhpkenoogaaGreatDoorG6ad7e9297433
import Derived.Test.YtbffmhpkenoogaaGreatDoorG7eb52c569e10
import Derived.Test.YtbffmhpkenoogaaGreatDoorGa70dc79f6f0e
import Derived.Test.YtbffmhpkenoogaaGreatDoorGe306e9bf0493
set_option linter.unusedVariables false
set_option linter.unusedSimpArgs false
set_option linter.unnecessarySimpa false
set_option maxRecDepth 100000
set_option maxHeartbeats 8000000

namespace Go.Proofs.YtbffmhpkenoogaaGreatDoor
open Go.ChangeShapes Go.WideShapes Go.RowKit
theorem En (e:Ev) (w:World):Calls Tryz.prog 53 #[e.val] w (Q0 w (bE e)):=(DT e w).mono fun _ _ h=>⟨h.1,h.2⟩
theorem Gj {B:Nat} {w0 w:World} (S:St B w0 w []):St B w0 w [.bG 2 none 0 [],.bG 4 none 0 []]:=
 (aJ S).cons ⟨Rd.none_,fun a h=>by cases h⟩ fun k hk=>by cases hk
theorem uY (ep nx gv kd pr id bd he hn:Int) (A1 A2:Option Addr) (c1 c2:Nat) (rs:List fP) (ls:List Ls) (W:jP) (w:World) (h1:Rd w w.heap.size 2 A1 rs.length (rs.flatMap fP.cells)) (h2:Rd w w.heap.size 4 A2 ls.length (ls.flatMap Ls.cells)) (hb1:rs.length*16≤reachBytes) (hb2:ls.length*32≤reachBytes):
    Calls Tryz.prog 39 #[.agg (bV ep nx gv (.slice A1 rs.length c1) (.slice A2 ls.length c2) W),.agg #[iV kd,iV pr,iV id,iV bd,iV he,iV hn]] w (ae6 w (jF ⟨ep,nx,gv,rs,ls,W⟩ ⟨kd,pr,id,bd,he,hn⟩)):=by
 have S:=((St.start w).bH h2).bH h1;refine fE 70 Tryz.func39 ?_;refine cw [0,1] ?_;iterate 2 refine zQ ?_
 refine gD S ?_;intro b1 w2 S3;refine gD S3 ?_;intro b4 w5 S6;refine gV (V:=fun b=>pV b 0) (row:=bV 0 0 0 (.slice none 0 0) (.slice none 0 0) iW) (t:=57) S6 (wn rfl) rfl rfl (iN rfl (Tryz.zeroValue57 _) rfl) ?_;intro b7 w8 S9;refine eU S9 rz ?_;intro b10 Ee lq;iterate 8 refine zQ ?_
 refine cab asv lq (Md ep nx gv A1 A2 c1 c2 rs ls W _ (St.rd 4 lq rfl) (St.rd 5 lq rfl) hb1 hb2) ?_;intro CG jH;iterate 6 refine zQ ?_
 by_cases h0:iL ep nx gv rs ls W=0
 ·obtain ⟨hR,hW,hRd,hLs,hNd⟩:=UO h0;unfold Q5 at hR;iterate 10 refine zQ ?_
  refine cab alH jH (En ⟨kd,pr,id,bd,he,hn⟩ _) ?_;intro w16 kT;iterate 6 refine zQ ?_
  by_cases h1:bE ⟨kd,pr,id,bd,he,hn⟩=0
  ·have hkd:=ae8 h1;have hpr:=ae9 h1;simp only at hkd hpr;obtain ⟨k,hk0⟩: ∃ k:Nat,pr=(k:Int):=⟨pr.toNat,by omega⟩;subst hk0;have hk:k<4:=by omega
   iterate 9 refine zQ ?_
   refine vv (v:= .agg (bV ep nx gv (.slice A1 rs.length c1) (.slice A2 ls.length c2) W)) gZ ?_;refine gD kT ?_;intro b19 ZH qP;iterate 4 refine zQ ?_
   have ig:=qP.drew;refine aN 16 ig [0] ?_;iterate 3 refine aF ?_
   refine ak (v:= .slice A1 rs.length c1) 3 rfl (St.del 0 ig) (fun _ ahQ=>(aj rfl rfl (aA Tryz.underlying50 rfl (St.cl 3 ahQ rfl nX)))) ?_;refine aF ?_;refine ak (v:= .slice A2 ls.length c2) 6 rfl (St.del 0 ig) (fun _ ahI=>(aj rfl rfl (aA Tryz.underlying51 rfl (St.cl 3 ahI rfl rA)))) ?_;refine aS 4 ?_;refine iH 4 rfl asw (LZ A1 rs.length c1 _ _ (St.rd 5 ig rfl) (aaS rs) hb1) ?_;rintro _ Qp ⟨ZI,ZJ,rfl,auy,auz⟩;refine ⟨_,rfl,?_⟩;have oD:=ig.rU auy auz;refine aF ?_;refine aS 7 ?_;refine iH 7 rfl asx (L6 A2 ls.length c2 _ _ (St.rd 7 oD rfl) (Uw ls) hb2) ?_;rintro _ w39 ⟨NY,NZ,rfl,ahk,auA⟩;refine ⟨_,rfl,?_⟩;have vV:=oD.rU ahk auA;iterate 4 refine aF ?_
   refine aS 11 ?_;refine snz 11 rfl 2 vV LM ?_ (hs:=by exact ET);intro L9 mW;iterate 4 refine aF ?_
   refine aS 15 ?_;refine snz 15 rfl 2 mW LP ?_ (hs:=by exact EU);intro Qq rO;iterate 2 refine aF ?_
   iterate 3 refine zQ ?_
   refine Gb (k:=3) rO (wn rfl) rfl rfl rfl ?_;intro Zu w52 vG;refine zQ ?_;refine vv FM ?_;refine jL (e:=145) 0 vG (wn rfl) rfl rfl rfl rfl rfl rfl Tryz.underlying3 Tryz.underlying146 (by decide) (by decide) ?_;intro w54 xk;refine zQ ?_;refine vv FM ?_;refine jL (e:=145) 0 xk (wn rfl) rfl rfl rfl rfl rfl rfl Tryz.underlying3 Tryz.underlying146 (by decide) (by decide) ?_;intro w56 sF;refine zQ ?_;refine vv FM ?_;refine jL (e:=145) 0 sF (wn rfl) rfl rfl rfl rfl rfl rfl Tryz.underlying3 Tryz.underlying146 (by decide) (by decide) ?_;intro ZG uQ;refine zQ ?_;refine vv FM ?_;refine jL (e:=145) 0 uQ (wn rfl) rfl rfl rfl rfl rfl rfl Tryz.underlying3 Tryz.underlying146 (by decide) (by decide) ?_;intro Qx Au;iterate 3 refine zQ ?_
   rcases (by omega:kd=1∨kd=2∨kd=3∨kd=4) with rfl | rfl | rfl | rfl
   ·refine vv (v:= .func (.func 56) #[pV b19 0] #[]) (dZ 0 Au rfl rfl rfl rfl Tryz.underlying3 Tryz.underlying146 (Tryz.zeroValue145 _) (by decide) rfl) ?_;iterate 7 refine zQ ?_
    have FV:St w.heap.size w Qx [.blk b19 (bV ep nx gv (.slice ZI rs.length ZJ) (.slice NY ls.length NZ) W) 142,.own 88 2 (.slice ZI rs.length ZJ) rs.length ((rs).flatMap fP.cells),.own 90 4 (.slice NY ls.length NZ) ls.length ((ls).flatMap Ls.cells),.loc Zu (iY Tryz.prog 3 (fun y=>if y=4 then some (.func (.func 59) #[pV b19 0] #[]) else (fun y=>if y=3 then some (.func (.func 58) #[pV b19 0] #[]) else (fun y=>if y=2 then some (.func (.func 57) #[pV b19 0] #[]) else (fun y=>if y=1 then some (.func (.func 56) #[pV b19 0] #[]) else (fun _=>none) y) y) y) y) 4),.blk b10 #[iV 0,iV 0,iV 0,iV 0] 79,.blk b7 (bV 0 0 0 (.slice none 0 0) (.slice none 0 0) iW) 57,.blk b4 #[iV 1,iV ((k:Nat):Int),iV id,iV bd,iV he,iV hn] 75,.blk b1 (bV ep nx gv (.slice A1 rs.length c1) (.slice A2 ls.length c2) W) 57,.rd 2 A1 rs.length ((rs).flatMap fP.cells),.rd 4 A2 ls.length ((ls).flatMap Ls.cells)]:=Au.re [3,2,1,0,4,5,6,7,8,9] (by decide);have HC:=I9 (kd:=1) (k:=k) (id:=id) (bd:=bd) (he:=he) (hn:=hn) FV hk (by omega) (by omega) (by omega) (by omega);rw [←show stepM ⟨ep,nx,gv,rs,ls,W⟩ ⟨1,((k:Nat):Int),id,bd,he,hn⟩=Dn ⟨ep,nx,gv,rs,ls,W⟩ k id bd from by simp [stepM]] at HC;obtain ⟨R,QA⟩: ∃ R,stepM ⟨ep,nx,gv,rs,ls,W⟩ ⟨1,((k:Nat):Int),id,bd,he,hn⟩=R:=⟨_,rfl⟩;rw [QA] at HC;refine uF asy (HC) ?_;rintro _ w67 ⟨rfl,A63,c64,A65,c66,uz⟩;refine ⟨_,rfl,?_⟩;iterate 3 refine zQ ?_
    refine eU uz rz ?_;intro b69 UA qh;refine sa 0 qh dh ?_;intro VZ qL;iterate 4 refine zQ ?_
    have JM:=qL.drew;refine aN 10 JM [6,5] ?_;iterate 6 refine aF ?_
    refine aS 6 ?_;refine UD 6 rfl 6 JM jy ?_;intro w81 UG;refine aF ?_;refine aS 7 ?_;refine sn 7 rfl 5 UG dh ?_;intro w83 CJ;iterate 4 refine aF ?_
    iterate 2 refine zQ ?_
    refine dI (rs:=[.cell 4 57,.cell 5 79,.tmp 6,.tmp 7]) (vs:=[.agg (bV R.1.ep R.1.nx R.1.gv (.slice A63 R.1.ready.length c64) (.slice A65 R.1.bC.length c66) R.1.ws),.agg #[iV R.2.1.code,iV R.2.1.gG,iV R.2.1.hno,iV R.2.1.body],.bool R.2.2,iV 0]) rfl ⟨⟨_,rfl,dQ 6 CJ rfl Tryz.underlying57 rfl jy⟩,⟨_,rfl,dQ 5 CJ rfl Tryz.underlying79 rfl dh⟩,rfl,rfl,trivial⟩ ?_;have Du:=CJ.aR [10,9,8,7,6,5,4,1,0];rw [Mk (Q:=⟨ep,nx,gv,rs,ls,W⟩) h0 h1,QA];exact ⟨A63,c64,A65,c66,rfl,Du⟩
   ·refine vv (v:= .func (.func 57) #[pV b19 0] #[]) (dZ 0 Au rfl rfl rfl rfl Tryz.underlying3 Tryz.underlying146 (Tryz.zeroValue145 _) (by decide) rfl) ?_;iterate 7 refine zQ ?_
    have IV:St w.heap.size w Qx [.blk b19 (bV ep nx gv (.slice ZI rs.length ZJ) (.slice NY ls.length NZ) W) 142,.own 88 2 (.slice ZI rs.length ZJ) rs.length ((rs).flatMap fP.cells),.own 90 4 (.slice NY ls.length NZ) ls.length ((ls).flatMap Ls.cells),.loc Zu (iY Tryz.prog 3 (fun y=>if y=4 then some (.func (.func 59) #[pV b19 0] #[]) else (fun y=>if y=3 then some (.func (.func 58) #[pV b19 0] #[]) else (fun y=>if y=2 then some (.func (.func 57) #[pV b19 0] #[]) else (fun y=>if y=1 then some (.func (.func 56) #[pV b19 0] #[]) else (fun _=>none) y) y) y) y) 4),.blk b10 #[iV 0,iV 0,iV 0,iV 0] 79,.blk b7 (bV 0 0 0 (.slice none 0 0) (.slice none 0 0) iW) 57,.blk b4 #[iV 2,iV ((k:Nat):Int),iV id,iV bd,iV he,iV hn] 75,.blk b1 (bV ep nx gv (.slice A1 rs.length c1) (.slice A2 ls.length c2) W) 57,.rd 2 A1 rs.length ((rs).flatMap fP.cells),.rd 4 A2 ls.length ((ls).flatMap Ls.cells)]:=Au.re [3,2,1,0,4,5,6,7,8,9] (by decide);have HC:=Ja (kd:=2) (k:=k) (id:=id) (bd:=bd) (he:=he) (hn:=hn) IV hk (by omega) (by omega) (by omega) (by omega);rw [←show stepM ⟨ep,nx,gv,rs,ls,W⟩ ⟨2,((k:Nat):Int),id,bd,he,hn⟩=JL ⟨ep,nx,gv,rs,ls,W⟩ from by simp [stepM]] at HC;obtain ⟨R,QA⟩: ∃ R,stepM ⟨ep,nx,gv,rs,ls,W⟩ ⟨2,((k:Nat):Int),id,bd,he,hn⟩=R:=⟨_,rfl⟩;rw [QA] at HC;refine uF asz (HC) ?_;rintro _ w93 ⟨rfl,A89,c90,A91,c92,CF⟩;refine ⟨_,rfl,?_⟩;iterate 3 refine zQ ?_
    refine eU CF rz ?_;intro b95 Qv uP;refine sa 0 uP dh ?_;intro w98 VR;iterate 4 refine zQ ?_
    have oJ:=VR.drew;refine aN 10 oJ [6,5] ?_;iterate 6 refine aF ?_
    refine aS 6 ?_;refine UD 6 rfl 6 oJ jy ?_;intro al3 rC;refine aF ?_;refine aS 7 ?_;refine sn 7 rfl 5 rC dh ?_;intro VT pq;iterate 4 refine aF ?_
    iterate 2 refine zQ ?_
    refine dI (rs:=[.cell 4 57,.cell 5 79,.tmp 6,.tmp 7]) (vs:=[.agg (bV R.1.ep R.1.nx R.1.gv (.slice A89 R.1.ready.length c90) (.slice A91 R.1.bC.length c92) R.1.ws),.agg #[iV R.2.1.code,iV R.2.1.gG,iV R.2.1.hno,iV R.2.1.body],.bool R.2.2,iV 0]) rfl ⟨⟨_,rfl,dQ 6 pq rfl Tryz.underlying57 rfl jy⟩,⟨_,rfl,dQ 5 pq rfl Tryz.underlying79 rfl dh⟩,rfl,rfl,trivial⟩ ?_;have jg:=pq.aR [10,9,8,7,6,5,4,1,0];rw [Mk (Q:=⟨ep,nx,gv,rs,ls,W⟩) h0 h1,QA];exact ⟨A89,c90,A91,c92,rfl,jg⟩
   ·refine vv (v:= .func (.func 58) #[pV b19 0] #[]) (dZ 0 Au rfl rfl rfl rfl Tryz.underlying3 Tryz.underlying146 (Tryz.zeroValue145 _) (by decide) rfl) ?_;iterate 7 refine zQ ?_
    have yX:St w.heap.size w Qx [.blk b19 (bV ep nx gv (.slice ZI rs.length ZJ) (.slice NY ls.length NZ) W) 142,.own 88 2 (.slice ZI rs.length ZJ) rs.length ((rs).flatMap fP.cells),.own 90 4 (.slice NY ls.length NZ) ls.length ((ls).flatMap Ls.cells),.loc Zu (iY Tryz.prog 3 (fun y=>if y=4 then some (.func (.func 59) #[pV b19 0] #[]) else (fun y=>if y=3 then some (.func (.func 58) #[pV b19 0] #[]) else (fun y=>if y=2 then some (.func (.func 57) #[pV b19 0] #[]) else (fun y=>if y=1 then some (.func (.func 56) #[pV b19 0] #[]) else (fun _=>none) y) y) y) y) 4),.blk b10 #[iV 0,iV 0,iV 0,iV 0] 79,.blk b7 (bV 0 0 0 (.slice none 0 0) (.slice none 0 0) iW) 57,.blk b4 #[iV 3,iV ((k:Nat):Int),iV id,iV bd,iV he,iV hn] 75,.blk b1 (bV ep nx gv (.slice A1 rs.length c1) (.slice A2 ls.length c2) W) 57,.rd 2 A1 rs.length ((rs).flatMap fP.cells),.rd 4 A2 ls.length ((ls).flatMap Ls.cells)]:=Au.re [3,2,1,0,4,5,6,7,8,9] (by decide);have HC:=Wv (kd:=3) (k:=k) (id:=id) (bd:=bd) (he:=he) (hn:=hn) yX hk (by omega) (by omega) (by omega) (by omega) (akG hLs) (akH hLs);rw [←show stepM ⟨ep,nx,gv,rs,ls,W⟩ ⟨3,((k:Nat):Int),id,bd,he,hn⟩=Ic ⟨ep,nx,gv,rs,ls,W⟩ he hn from by simp [stepM]] at HC;obtain ⟨R,QA⟩: ∃ R,stepM ⟨ep,nx,gv,rs,ls,W⟩ ⟨3,((k:Nat):Int),id,bd,he,hn⟩=R:=⟨_,rfl⟩;rw [QA] at HC;refine uF asA (HC) ?_;rintro _ amD ⟨rfl,amE,c116,amF,amG,oM⟩;refine ⟨_,rfl,?_⟩;iterate 3 refine zQ ?_
    refine eU oM rz ?_;intro atu MX pz;refine sa 0 pz dh ?_;intro WJ zY;iterate 4 refine zQ ?_
    have kH:=zY.drew;refine aN 10 kH [6,5] ?_;iterate 6 refine aF ?_
    refine aS 6 ?_;refine UD 6 rfl 6 kH jy ?_;intro Ih pI;refine aF ?_;refine aS 7 ?_;refine sn 7 rfl 5 pI dh ?_;intro ahl yS;iterate 4 refine aF ?_
    iterate 2 refine zQ ?_
    refine dI (rs:=[.cell 4 57,.cell 5 79,.tmp 6,.tmp 7]) (vs:=[.agg (bV R.1.ep R.1.nx R.1.gv (.slice amE R.1.ready.length c116) (.slice amF R.1.bC.length amG) R.1.ws),.agg #[iV R.2.1.code,iV R.2.1.gG,iV R.2.1.hno,iV R.2.1.body],.bool R.2.2,iV 0]) rfl ⟨⟨_,rfl,dQ 6 yS rfl Tryz.underlying57 rfl jy⟩,⟨_,rfl,dQ 5 yS rfl Tryz.underlying79 rfl dh⟩,rfl,rfl,trivial⟩ ?_;have Dz:=yS.aR [10,9,8,7,6,5,4,1,0];rw [Mk (Q:=⟨ep,nx,gv,rs,ls,W⟩) h0 h1,QA];exact ⟨amE,c116,amF,amG,rfl,Dz⟩
   refine vv (v:= .func (.func 59) #[pV b19 0] #[]) (dZ 0 Au rfl rfl rfl rfl Tryz.underlying3 Tryz.underlying146 (Tryz.zeroValue145 _) (by decide) rfl) ?_;iterate 7 refine zQ ?_
   have Dp:St w.heap.size w Qx [.blk b19 (bV ep nx gv (.slice ZI rs.length ZJ) (.slice NY ls.length NZ) W) 142,.own 88 2 (.slice ZI rs.length ZJ) rs.length ((rs).flatMap fP.cells),.own 90 4 (.slice NY ls.length NZ) ls.length ((ls).flatMap Ls.cells),.loc Zu (iY Tryz.prog 3 (fun y=>if y=4 then some (.func (.func 59) #[pV b19 0] #[]) else (fun y=>if y=3 then some (.func (.func 58) #[pV b19 0] #[]) else (fun y=>if y=2 then some (.func (.func 57) #[pV b19 0] #[]) else (fun y=>if y=1 then some (.func (.func 56) #[pV b19 0] #[]) else (fun _=>none) y) y) y) y) 4),.blk b10 #[iV 0,iV 0,iV 0,iV 0] 79,.blk b7 (bV 0 0 0 (.slice none 0 0) (.slice none 0 0) iW) 57,.blk b4 #[iV 4,iV ((k:Nat):Int),iV id,iV bd,iV he,iV hn] 75,.blk b1 (bV ep nx gv (.slice A1 rs.length c1) (.slice A2 ls.length c2) W) 57,.rd 2 A1 rs.length ((rs).flatMap fP.cells),.rd 4 A2 ls.length ((ls).flatMap Ls.cells)]:=Au.re [3,2,1,0,4,5,6,7,8,9] (by decide);have HC:=WH (kd:=4) (k:=k) (id:=id) (bd:=bd) (he:=he) (hn:=hn) Dp hk (by omega) (by omega) (by omega) (by omega) (ae7 hRd) hNd;rw [←show stepM ⟨ep,nx,gv,rs,ls,W⟩ ⟨4,((k:Nat):Int),id,bd,he,hn⟩=Q6 ⟨ep,nx,gv,rs,ls,W⟩ from by simp [stepM]] at HC;obtain ⟨R,QA⟩: ∃ R,stepM ⟨ep,nx,gv,rs,ls,W⟩ ⟨4,((k:Nat):Int),id,bd,he,hn⟩=R:=⟨_,rfl⟩;rw [QA] at HC;refine uF asB (HC) ?_;rintro _ auB ⟨rfl,acB,acC,WK,WL,MV⟩;refine ⟨_,rfl,?_⟩;iterate 3 refine zQ ?_
   refine eU MV rz ?_;intro auC auD xM;refine sa 0 xM dh ?_;intro ahu EZ;iterate 4 refine zQ ?_
   have Fa:=EZ.drew;refine aN 10 Fa [6,5] ?_;iterate 6 refine aF ?_
   refine aS 6 ?_;refine UD 6 rfl 6 Fa jy ?_;intro amH Ke;refine aF ?_;refine aS 7 ?_;refine sn 7 rfl 5 Ke dh ?_;intro auE Fb;iterate 4 refine aF ?_
   iterate 2 refine zQ ?_
   refine dI (rs:=[.cell 4 57,.cell 5 79,.tmp 6,.tmp 7]) (vs:=[.agg (bV R.1.ep R.1.nx R.1.gv (.slice acB R.1.ready.length acC) (.slice WK R.1.bC.length WL) R.1.ws),.agg #[iV R.2.1.code,iV R.2.1.gG,iV R.2.1.hno,iV R.2.1.body],.bool R.2.2,iV 0]) rfl ⟨⟨_,rfl,dQ 6 Fb rfl Tryz.underlying57 rfl jy⟩,⟨_,rfl,dQ 5 Fb rfl Tryz.underlying79 rfl dh⟩,rfl,rfl,trivial⟩ ?_;have wu:=Fb.aR [10,9,8,7,6,5,4,1,0];rw [Mk (Q:=⟨ep,nx,gv,rs,ls,W⟩) h0 h1,QA];exact ⟨acB,acC,WK,WL,rfl,wu⟩
  refine zQ ?_;refine zQ ?_;refine Ql (vv (v:= .agg (bV 0 0 0 (.slice none 0 0) (.slice none 0 0) iW)) yz ?_);refine zQ ?_;refine zQ ?_;refine saq 1 kT jy ?_;intro auF amI;refine sa 0 amI dh ?_;intro ahR Io;iterate 6 refine zQ ?_
  refine dI (rs:=[.cell 4 57,.cell 5 79,.tmp 6,.tmp 7]) (vs:=[.agg (bV 0 0 0 (.slice none 0 0) (.slice none 0 0) iW),.agg #[iV 0,iV 0,iV 0,iV 0],.bool false,iV (bE ⟨kd,pr,id,bd,he,hn⟩)]) rfl ⟨⟨_,rfl,dQ 1 Io rfl Tryz.underlying57 rfl jy⟩,⟨_,rfl,dQ 0 Io rfl Tryz.underlying79 rfl dh⟩,rfl,rfl,trivial⟩ ?_;have Rk:=Io.aR [5,4,3,2,1,0];rw [agx (Q:=⟨ep,nx,gv,rs,ls,W⟩) h0 h1];exact ⟨none,0,none,0,rfl,Gj Rk⟩
 refine zQ ?_;refine zQ ?_;refine Ql (vv (v:= .agg (bV 0 0 0 (.slice none 0 0) (.slice none 0 0) iW)) yz ?_);refine zQ ?_;refine zQ ?_;refine saq 1 jH jy ?_;intro auG wJ;refine sa 0 wJ dh ?_;intro atM Wm;iterate 6 refine zQ ?_
 refine dI (rs:=[.cell 4 57,.cell 5 79,.tmp 6,.tmp 7]) (vs:=[.agg (bV 0 0 0 (.slice none 0 0) (.slice none 0 0) iW),.agg #[iV 0,iV 0,iV 0,iV 0],.bool false,iV (iL ep nx gv rs ls W)]) rfl ⟨⟨_,rfl,dQ 1 Wm rfl Tryz.underlying57 rfl jy⟩,⟨_,rfl,dQ 0 Wm rfl Tryz.underlying79 rfl dh⟩,rfl,rfl,trivial⟩ ?_;have JX:=Wm.aR [5,4,3,2,1,0];rw [agw (Q:=⟨ep,nx,gv,rs,ls,W⟩) h0];exact ⟨none,0,none,0,rfl,Gj JX⟩
def Fe (e n g:Int) (r l:Value) (W:jP) (a:Value):Array Value:=(iV e::iV n::iV g::r::l::(W.cells++[a])).toArray
section
variable {e n g:Int} {r l a:Value} {W:jP}
theorem WM:(Fe e n g r l W a).size=42:=rfl
theorem ZK: ∀ (j:Nat) (u:Value),(bV e n g r l W).toList[j]? =some u→(Fe e n g r l W a)[0+j]? =some u:=mR (m:=41) rfl
theorem afa {e' n' g':Int} {r' l':Value} {W':jP}:bX (Fe e n g r l W a) 0 (bV e' n' g' r' l' W').toList=Fe e' n' g' r' l' W' a:=by
 apply Array.toList_inj.1;rw [fV _ _ _ (by rw [WM];show 0+41≤42;omega)];rfl
end
def nO (g:Nat) (Q:Qd) (an:List iK) (A1:Option Addr) (c1:Nat) (A2:Option Addr) (c2:Nat) (A3:Option Addr) (c3:Nat) (fs:List Fact):List Fact:=
 (.blk g (Fe Q.ep Q.nx Q.gv (.slice A1 Q.ready.length c1) (.slice A2 Q.bC.length c2) Q.ws (.slice A3 an.length c3)) 137)::(.bG 2 A1 Q.ready.length ((Q.ready).flatMap fP.cells))::(.bG 4 A2 Q.bC.length ((Q.bC).flatMap Ls.cells))::(.own 79 4 (.slice A3 an.length c3) an.length ((an).flatMap iK.cells))::fs
def afb (B:Nat) (w0:World) (g:Nat) (fs:List Fact) (an:List iK) (r:Qd×iK×Bool×Int) (e:Ending) (w':World):Prop:=
 ((r.2.2.2=0∧r.2.2.1=true)→e= .returned (.bool true)∧ ∃ A1 c1 A2 c2 A3 c3,St B w0 w' (nO g r.1 (an++[r.2.1]) A1 c1 A2 c2 A3 c3 fs))∧(¬ (r.2.2.2=0∧r.2.2.1=true)→e= .returned (.bool false)∧St B w0 w' fs)
def aa4 (w:World) (r:Qd×List iK×Int) (e:Ending) (w':World):Prop:=
 (r.2.2=0→ ∃ g A1 c1 A2 c2 A3 c3,e= .returned (.tuple #[pV g 0,iV 0])∧St w.heap.size w w' (nO g r.1 r.2.1 A1 c1 A2 c2 A3 c3 []))∧(r.2.2≠0→e= .returned (.tuple #[.pointer none,iV r.2.2])∧Below w.heap.size w w')
def Tf (w:World) (r:Qd×List iK×Int) (e:Ending) (w':World):Prop:= ∃ A1 c1 A2 c2,
 e= .returned (.tuple #[.agg (bV r.1.ep r.1.nx r.1.gv (.slice A1 r.1.ready.length c1) (.slice A2 r.1.bC.length c2) r.1.ws),iV r.2.2])∧
 St w.heap.size w w' [.bG 2 A1 r.1.ready.length (r.1.ready.flatMap fP.cells),.bG 4 A2 r.1.bC.length (r.1.bC.flatMap Ls.cells)]
def PL (w:World) (r:Qd×List iK×Int) (e:Ending) (w':World):Prop:= ∃ A c,
 e= .returned (.tuple #[.slice A r.2.1.length c,iV r.2.2])∧St w.heap.size w w' [.bG 4 A r.2.1.length (r.2.1.flatMap iK.cells)]
theorem WO {B g c1 c2 c3:Nat} {w0 w:World} {fs:List Fact} {A1 A2 A3:Option Addr} {Q:Qd} {an:List iK} {x:Ev} (S:St B w0 w (nO g Q an A1 c1 A2 c2 A3 c3 fs)) (hq:Q.ready.length+Q.bC.length≤501) (ha:an.length≤2000):
    Calls Tryz.prog 83 #[pV g 0,.agg #[iV x.kind,iV x.producer,iV x.id,iV x.body,iV x.aL,iV x.hno]] w (afb B w0 g fs an (jF Q x)):=by
 unfold nO at S;obtain ⟨R,hR⟩: ∃ R,jF Q x=R:=⟨_,rfl⟩;refine fE 40 Tryz.func83 ?_;refine cw [0,1] ?_;iterate 2 refine zQ ?_
 refine gD S ?_;intro b1 w2 S3;iterate 3 refine zQ ?_
 refine jU (X:=Nat×Nat×(Option Addr)×Nat×(Option Addr)×Nat) (fun xv=>[(0,pV g 0),(4,.bool false),(5,pV xv.1 0),(6,pV xv.2.1 0),(7,.bool R.2.2.1),(8,iV R.2.2.2)]) (fun xv wr=>St B w0 wr ((.blk xv.2.1 #[iV R.2.1.code,iV R.2.1.gG,iV R.2.1.hno,iV R.2.1.body] 79)::(.blk xv.1 (bV R.1.ep R.1.nx R.1.gv (.slice xv.2.2.1 R.1.ready.length xv.2.2.2.1) (.slice xv.2.2.2.2.1 R.1.bC.length xv.2.2.2.2.2) R.1.ws) 57)::(.bG 2 xv.2.2.1 R.1.ready.length ((R.1.ready).flatMap fP.cells))::(.bG 4 xv.2.2.2.2.1 R.1.bC.length ((R.1.bC).flatMap Ls.cells))::(.blk b1 #[iV x.kind,iV x.producer,iV x.id,iV x.body,iV x.aL,iV x.hno] 75)::(.blk g (Fe Q.ep Q.nx Q.gv (.slice A1 Q.ready.length c1) (.slice A2 Q.bC.length c2) Q.ws (.slice A3 an.length c3)) 137)::(.bG 2 A1 Q.ready.length ((Q.ready).flatMap fP.cells))::(.bG 4 A2 Q.bC.length ((Q.bC).flatMap Ls.cells))::(.own 79 4 (.slice A3 an.length c3) an.length ((an).flatMap iK.cells))::fs)) ?_ ?_
 ·have S4:=S3.drew;refine aN 17 S4 [] ?_;iterate 3 refine aF ?_
  refine ak (v:= .agg (bV Q.ep Q.nx Q.gv (.slice A1 Q.ready.length c1) (.slice A2 Q.bC.length c2) Q.ws)) 3 rfl S4 (fun _ Sx8=>(aj rfl rfl (aG (cs:=(bV Q.ep Q.nx Q.gv (.slice A1 Q.ready.length c1) (.slice A2 Q.bC.length c2) Q.ws).toList) Tryz.underlying57 rfl jy rfl (St.rg 1 Sx8 rfl (ZK))))) ?_;refine aF ?_;refine Ny (n:=11) (r:=5) (s:=11) (t:=12) (by kernel_rfl) ?_ ?_ ?_
  ·have HD:=fun A1 A2 c1 c2 w h1 h2=>uY Q.ep Q.nx Q.gv x.kind x.producer x.id x.body x.aL x.hno A1 A2 c1 c2 Q.ready Q.bC Q.ws w h1 h2 (by unfold reachBytes;omega) (by unfold reachBytes;omega)
   rw [show jF ⟨Q.ep,Q.nx,Q.gv,Q.ready,Q.bC,Q.ws⟩ ⟨x.kind,x.producer,x.id,x.body,x.aL,x.hno⟩=R from hR] at HD;refine iH 5 rfl QU (HD A1 A2 c1 c2 _ (St.bG 2 S4 rfl) (St.bG 3 S4 rfl)) ?_;rintro _ FT ⟨zL,c11,Mr,c13,rfl,T16⟩;refine ⟨_,rfl,?_⟩;have gH:=S4.ext T16 rfl;clear HD;iterate 6 refine aF ?_
   refine dR (n:=5) (r:=11) (s:=12) (by kernel_rfl) ?_ ?_
   ·refine jr (i:=11) rfl rfl (V:=fun b=>pV b 0) (row:=bV 0 0 0 (.slice none 0 0) (.slice none 0 0) iW) (t:=57) gH (wn rfl) rfl rfl (iN rfl (Tryz.zeroValue57 _) rfl) ?_;intro NR JZ jB;refine aF ?_;refine aS 12 ?_;refine jk 12 rfl jB rz ?_;intro NM IQ qJ;refine aF ?_;refine aS 13 ?_;refine UD 13 rfl 1 qJ jy ?_;intro VN sj;refine aF ?_;refine aS 14 ?_;refine sn 14 rfl 0 sj dh ?_;intro V4 mF;iterate 4 refine aF ?_
    refine bJ (NR,NM,zL,c11,Mr,c13) ?_ ⟨rfl,rfl,rfl,rfl,rfl,rfl,trivial⟩;exact mF
   refine jk 12 rfl gH rz ?_;intro b34 VO nL;refine aF ?_;refine aS 11 ?_;refine jr (i:=11) rfl rfl (V:=fun b=>pV b 0) (row:=bV 0 0 0 (.slice none 0 0) (.slice none 0 0) iW) (t:=57) nL (wn rfl) rfl rfl (iN rfl (Tryz.zeroValue57 _) rfl) ?_;intro b37 Zy yV;refine aF ?_;refine aS 13 ?_;refine UD 13 rfl 0 yV jy ?_;intro UH xU;refine aF ?_;refine aS 14 ?_;refine sn 14 rfl 1 xU dh ?_;intro Ux tu;iterate 4 refine aF ?_
   have qj:=tu.dM [8,8,8,8,8,8,8,7,8];refine bJ (b37,b34,zL,c11,Mr,c13) ?_ ⟨rfl,rfl,rfl,rfl,rfl,rfl,trivial⟩;exact qj
  ·refine jr (i:=11) rfl rfl (V:=fun b=>pV b 0) (row:=bV 0 0 0 (.slice none 0 0) (.slice none 0 0) iW) (t:=57) S4 (wn rfl) rfl rfl (iN rfl (Tryz.zeroValue57 _) rfl) ?_;intro b47 UE sD;refine aF ?_;refine dR (n:=10) (r:=5) (s:=12) (by kernel_rfl) ?_ ?_
   ·have HD:=fun A1 A2 c1 c2 w h1 h2=>uY Q.ep Q.nx Q.gv x.kind x.producer x.id x.body x.aL x.hno A1 A2 c1 c2 Q.ready Q.bC Q.ws w h1 h2 (by unfold reachBytes;omega) (by unfold reachBytes;omega)
    rw [show jF ⟨Q.ep,Q.nx,Q.gv,Q.ready,Q.bC,Q.ws⟩ ⟨x.kind,x.producer,x.id,x.body,x.aL,x.hno⟩=R from hR] at HD;refine iH 5 rfl QU (HD A1 A2 c1 c2 _ (St.bG 3 sD rfl) (St.bG 4 sD rfl)) ?_;rintro _ w54 ⟨UQ,c51,A52,c53,rfl,T56⟩;refine ⟨_,rfl,?_⟩;have xk:=sD.ext T56 rfl;clear HD;iterate 6 refine aF ?_
    refine aS 12 ?_;refine jk 12 rfl xk rz ?_;intro b62 w63 S64;refine aF ?_;refine aS 13 ?_;refine UD 13 rfl 3 S64 jy ?_;intro w65 Bj;refine aF ?_;refine aS 14 ?_;refine sn 14 rfl 0 Bj dh ?_;intro w67 uz;iterate 4 refine aF ?_
    have qh:=uz.dM [8,8,8,8,8,7,7,8,8];refine bJ (b47,b62,UQ,c51,A52,c53) ?_ ⟨rfl,rfl,rfl,rfl,rfl,rfl,trivial⟩;exact qh
   refine jk 12 rfl sD rz ?_;intro b72 w73 JM;refine aF ?_;refine aS 5 ?_;have HD:=fun A1 A2 c1 c2 w h1 h2=>uY Q.ep Q.nx Q.gv x.kind x.producer x.id x.body x.aL x.hno A1 A2 c1 c2 Q.ready Q.bC Q.ws w h1 h2 (by unfold reachBytes;omega) (by unfold reachBytes;omega)
   rw [show jF ⟨Q.ep,Q.nx,Q.gv,Q.ready,Q.bC,Q.ws⟩ ⟨x.kind,x.producer,x.id,x.body,x.aL,x.hno⟩=R from hR] at HD;refine iH 5 rfl QU (HD A1 A2 c1 c2 _ (St.bG 4 JM rfl) (St.bG 5 JM rfl)) ?_;rintro _ w79 ⟨A75,c76,A77,c78,rfl,T81⟩;refine ⟨_,rfl,?_⟩;have xG:=JM.ext T81 rfl;clear HD;iterate 6 refine aF ?_
   refine aS 13 ?_;refine UD 13 rfl 3 xG jy ?_;intro w87 IV;refine aF ?_;refine aS 14 ?_;refine sn 14 rfl 2 IV dh ?_;intro w89 JO;iterate 4 refine aF ?_
   have yR:=JO.dM [8,8,8,8,8,6,6,8,8];refine bJ (b47,b72,A75,c76,A77,c78) ?_ ⟨rfl,rfl,rfl,rfl,rfl,rfl,trivial⟩;exact yR
  refine jk 12 rfl S4 rz ?_;intro b94 w95 Bn;refine aF ?_;refine dR (n:=10) (r:=5) (s:=11) (by kernel_rfl) ?_ ?_
  ·have HD:=fun A1 A2 c1 c2 w h1 h2=>uY Q.ep Q.nx Q.gv x.kind x.producer x.id x.body x.aL x.hno A1 A2 c1 c2 Q.ready Q.bC Q.ws w h1 h2 (by unfold reachBytes;omega) (by unfold reachBytes;omega)
   rw [show jF ⟨Q.ep,Q.nx,Q.gv,Q.ready,Q.bC,Q.ws⟩ ⟨x.kind,x.producer,x.id,x.body,x.aL,x.hno⟩=R from hR] at HD;refine iH 5 rfl QU (HD A1 A2 c1 c2 _ (St.bG 3 Bn rfl) (St.bG 4 Bn rfl)) ?_;rintro _ ahp ⟨A97,c98,WQ,auH,rfl,auI⟩;refine ⟨_,rfl,?_⟩;have pG:=Bn.ext auI rfl;clear HD;iterate 6 refine aF ?_
   refine aS 11 ?_;refine jr (i:=11) rfl rfl (V:=fun b=>pV b 0) (row:=bV 0 0 0 (.slice none 0 0) (.slice none 0 0) iW) (t:=57) pG (wn rfl) rfl rfl (iN rfl (Tryz.zeroValue57 _) rfl) ?_;intro auJ al7 zW;refine aF ?_;refine aS 13 ?_;refine UD 13 rfl 0 zW jy ?_;intro Kg jg;refine aF ?_;refine aS 14 ?_;refine sn 14 rfl 3 jg dh ?_;intro V6 ko;iterate 4 refine aF ?_
   have uI:=ko.dM [8,8,8,8,8,7,7,7,8];refine bJ (auJ,b94,A97,c98,WQ,auH) ?_ ⟨rfl,rfl,rfl,rfl,rfl,rfl,trivial⟩;exact uI
  refine jr (i:=11) rfl rfl (V:=fun b=>pV b 0) (row:=bV 0 0 0 (.slice none 0 0) (.slice none 0 0) iW) (t:=57) Bn (wn rfl) rfl rfl (iN rfl (Tryz.zeroValue57 _) rfl) ?_;intro auK ahs tV;refine aF ?_;refine aS 5 ?_;have HD:=fun A1 A2 c1 c2 w h1 h2=>uY Q.ep Q.nx Q.gv x.kind x.producer x.id x.body x.aL x.hno A1 A2 c1 c2 Q.ready Q.bC Q.ws w h1 h2 (by unfold reachBytes;omega) (by unfold reachBytes;omega)
  rw [show jF ⟨Q.ep,Q.nx,Q.gv,Q.ready,Q.bC,Q.ws⟩ ⟨x.kind,x.producer,x.id,x.body,x.aL,x.hno⟩=R from hR] at HD;refine iH 5 rfl QU (HD A1 A2 c1 c2 _ (St.bG 4 tV rfl) (St.bG 5 tV rfl)) ?_;rintro _ ahS ⟨auL,auM,ahT,ahU,rfl,auN⟩;refine ⟨_,rfl,?_⟩;have Ig:=tV.ext auN rfl;clear HD;iterate 6 refine aF ?_
  refine aS 13 ?_;refine UD 13 rfl 2 Ig jy ?_;intro amN xO;refine aF ?_;refine aS 14 ?_;refine sn 14 rfl 3 xO dh ?_;intro Kh uJ;iterate 4 refine aF ?_
  have Dp:=uJ.dM [8,8,8,8,8,6,6,7,8];refine bJ (auK,b94,auL,auM,ahT,ahU) ?_ ⟨rfl,rfl,rfl,rfl,rfl,rfl,trivial⟩;exact Dp
 rintro ⟨auO,ame,WK,WL,Nc,c146⟩ aht xK
 try dsimp only at xK
 refine bq (l':=[(0,pV g 0),(4,.bool false),(5,pV auO 0),(6,pV ame 0),(7,.bool R.2.2.1),(8,iV R.2.2.2)]) ⟨rfl,rfl,rfl,rfl,rfl,rfl,trivial⟩ (aW (aW (aO (vm ?_))));by_cases h1:R.2.2.2=0
 ·iterate 3 refine zQ ?_
  cases h2:R.2.2.1
  ·iterate 13 refine zQ ?_
   rw [show jF Q x=R from hR];have xM:=xK.aR [8,7,6,5,4,3,2,1,0];exact ⟨fun h=>absurd h (fun h=>by rw [h2] at h;exact absurd h.2 (by simp)),fun _=>⟨rfl,xM⟩⟩
  iterate 13 refine zQ ?_
  refine iU 5 xK jy ?_ (h1:=by exact Gc rfl rfl) (hs:=by exact afa);intro ahu EZ;iterate 3 refine zQ ?_
  have Fa:=EZ.drew;refine fG 11 8 Fa [8] ?_;iterate 6 refine iP ?_
  refine gW (m:=4) (r:=6) (by kernel_rfl) ?_;refine kS (i:=6) rfl rfl (V:=fun b=> .slice (aD b 0) 1 1) (row:= #[iV R.2.1.code,iV R.2.1.gG,iV R.2.1.hno,iV R.2.1.body]) (t:=79) Fa (wn rfl) rfl rfl (aK (vs:=[(0,.agg #[iV R.2.1.code,iV R.2.1.gG,iV R.2.1.hno,iV R.2.1.body])]) rfl ⟨rfl,rfl,trivial⟩ (by kernel_rfl)) ?_;intro aCO al9 M0;refine iP ?_;refine gW (m:=3) (r:=7) (by kernel_rfl) ?_;refine jW (i:=7) rfl rfl (news:=[iV R.2.1.code,iV R.2.1.gG,iV R.2.1.hno,iV R.2.1.body]) (xs':=(an++[R.2.1]).flatMap iK.cells) 9 M0 (wn rfl) rfl rfl rfl rfl rfl rfl (St.iG (xs:=[iV R.2.1.code,iV R.2.1.gG,iV R.2.1.hno,iV R.2.1.body]) 0 M0 rfl rfl rfl) Tryz.underlying135 ajK rfl (by decide) (bZ rfl) (by simp only [maxLen];omega) (by omega) (jZ (enc:=iK.cells) rfl rfl) ?_;intro amO amP amf ay0 ay1 wu;refine iP ?_;refine eF (by kernel_rfl) rfl rfl rfl ?_;iterate 2 refine zQ ?_
  refine iU (row':=Fe R.1.ep R.1.nx R.1.gv (.slice WK R.1.ready.length WL) (.slice Nc R.1.bC.length c146) R.1.ws (.slice amO (an.length+1) amP)) 6 wu Zj ?_;intro ahR Io;refine zQ ?_;refine je ?_;iterate 8 refine zQ ?_
  rw [show jF Q x=R from hR];have Rk:=Io.aR [8,7,5,2,1,0];have ahB:=Rk.dM [3,2,2,3];have hal:(an++[R.2.1]).length=an.length+1:=by simp
  refine ⟨fun _=>⟨rfl,WK,WL,Nc,c146,amO,amP,?_⟩,fun h=>absurd ⟨h1,h2⟩ h⟩;unfold nO;rw [hal];exact ahB
 iterate 16 refine zQ ?_
 rw [show jF Q x=R from hR];have wJ:=xK.aR [8,7,6,5,4,3,2,1,0];exact ⟨fun h=>absurd h (fun h=>h1 h.1),fun _=>⟨rfl,wJ⟩⟩
theorem G9 {l:List Ev} (h: ¬ (aV l).2.2=0):(aV l).1=gN∧(aV l).2.1=[]:=by
 by_cases hl:2000<l.length
 ·rw [Kc hl];exact ⟨rfl,rfl⟩
 cases hg:gP gN [] l with
 | none=>rw [Gg hl hg];exact ⟨rfl,rfl⟩
 | some r=>rw [BZ hl hg] at h;exact absurd rfl h
theorem He (A:Option Addr) (c:Nat) (l:List Ev) (w:World) (h:Rd w w.heap.size 6 A l.length (bg l)) (hl:l.length≤1152921504606846976):
    Calls Tryz.prog 50 #[.slice A l.length c] w (aa4 w (aV l)):=by
 have S:=(St.start w).bH h;refine fE 24 Tryz.func50 ?_;refine cw [0] ?_;iterate 11 refine zQ ?_
 by_cases h1:2000< ((l.length:Nat):Int)
 ·iterate 13 refine zQ ?_
  rw [Kc (by omega)];exact ⟨fun h=>absurd h (by decide),fun _=>⟨rfl,S.low⟩⟩
 refine zQ ?_;refine zQ ?_;refine aaF (vv (v:= .agg (Fe 0 0 0 (.slice none 0 0) (.slice none 0 0) iW (.slice none 0 0))) yz ?_);refine gD S ?_;intro b2 w3 S4;iterate 12 refine zQ ?_
 have S5:=aJ (s:=2) (aJ (s:=4) (S4.nil 79 4));have S6:St w.heap.size w w3 [_,_,_,_,_]:=S5.re [3,0,1,2,4] (by decide);refine fH (X:=Nat×Qd×(List iK)×(Option Addr)×Nat×(Option Addr)×Nat×(Option Addr)×Nat) (fun xv=>[(2,.pointer none),(3,iV 0),(4,pV b2 0),(12,.slice A l.length c),(13,iV ((l.length:Nat):Int)),(14,iV ((xv.1:Nat):Int))]) (fun xv wr=>(xv.1≤l.length)∧(gP gN [] l=gP xv.2.1 xv.2.2.1 (l.drop xv.1))∧(xv.2.1.ready.length+xv.2.1.bC.length≤501)∧(xv.2.2.1.length=xv.1)∧St w.heap.size w wr [.blk b2 (Fe xv.2.1.ep xv.2.1.nx xv.2.1.gv (.slice xv.2.2.2.1 xv.2.1.ready.length xv.2.2.2.2.1) (.slice xv.2.2.2.2.2.1 xv.2.1.bC.length xv.2.2.2.2.2.2.1) xv.2.1.ws (.slice xv.2.2.2.2.2.2.2.1 xv.2.2.1.length xv.2.2.2.2.2.2.2.2)) 137,.bG 2 xv.2.2.2.1 xv.2.1.ready.length ((xv.2.1.ready).flatMap fP.cells),.bG 4 xv.2.2.2.2.2.1 xv.2.1.bC.length ((xv.2.1.bC).flatMap Ls.cells),.own 79 4 (.slice xv.2.2.2.2.2.2.2.1 xv.2.2.1.length xv.2.2.2.2.2.2.2.2) xv.2.2.1.length ((xv.2.2.1).flatMap iK.cells),.rd 6 A l.length ((l).flatMap Ev.cells)]) (fun xv=>l.length-xv.1) (0,gN,[],none,0,none,0,none,0) ?_ ?_ ?_
 ·exact ⟨Nat.zero_le _,rfl,(by simp [gN]),rfl,S6⟩
 ·exact ⟨rfl,rfl,rfl,rfl,rfl,rfl,trivial⟩
 rintro ⟨k,Q,an,A1,c1,A2,c2,A3,c3⟩ w7 ⟨hi9,l8,Nf,amQ,S8⟩
 try dsimp only at hi9 l8 Nf amQ S8
 refine bq (l':=[(2,.pointer none),(3,iV 0),(4,pV b2 0),(12,.slice A l.length c),(13,iV ((l.length:Nat):Int)),(14,iV ((k:Nat):Int))]) ⟨rfl,rfl,rfl,rfl,rfl,rfl,trivial⟩ (aW (aO ?_));by_cases iQ:((k:Nat):Int)< ((l.length:Nat):Int)
 ·iterate 11 refine zQ ?_
  obtain ⟨b14,o15,rfl⟩:=Rd.addr (St.rd 4 S8 rfl) (by omega);obtain ⟨WR,ahV⟩:=FK k (St.rd 4 S8 rfl) (by omega);refine vv (gM k) ?_;refine vv (aj rfl rfl (aG (cs:=Ev.cells WR) Tryz.underlying75 rfl jT rfl (Rd.uN (St.rd 4 S8 rfl) (fun _ _ h=>bS (enc:=Ev.cells) (sz:=6) (fun _=>rfl) ahV h)))) ?_;refine eU S8 alU ?_;intro b18 zJ kr;refine sa 0 kr jT ?_;intro Bh ig;iterate 6 refine zQ ?_
  have mE:St w.heap.size w Bh [_,_,_,_,_,_]:=ig.re [1,2,3,4,0,5] (by decide);obtain ⟨R,hR⟩: ∃ R,jF Q WR=R:=⟨_,rfl⟩;have HA:=WO (fs:=[.blk b18 #[iV WR.kind,iV WR.producer,iV WR.id,iV WR.body,iV WR.aL,iV WR.hno] 75,.rd 6 (aD b14 o15) l.length ((l).flatMap Ev.cells)]) (x:=WR) (show St _ _ _ (nO _ _ _ _ _ _ _ _ _ _) from mE) Nf (by omega);rw [hR] at HA;by_cases hok:R.2.2.2=0∧R.2.2.1=true
  ·refine dO alL (HA.mono fun _ _ h=>h.1 hok) ?_;rintro _ JU ⟨rfl,WS,c27,A28,c29,mX,c31,iX⟩;refine ⟨_,rfl,?_⟩;clear HA;iterate 8 refine zQ ?_
   refine vv (v:=iV ((k+1:Nat):Int)) jv ?_;iterate 2 refine zQ ?_
   have pE:St w.heap.size w JU [_,_,_,_,_]:=iX.re [0,1,2,3,5] (by decide);refine bY (k+1,R.1,an++[R.2.1],WS,c27,A28,c29,mX,c31) ?_ ⟨rfl,rfl,rfl,rfl,rfl,rfl,trivial⟩ (by first | omega | (dsimp only;omega));exact ⟨(by dsimp only;omega),(by dsimp only;rw [l8,PI ahV (by rw [hR];exact hok.1) (by rw [hR];exact hok.2),hR]),by dsimp only;exact hR▸ZF (by rw [hR];exact hok.1),(by dsimp only;rw [List.length_append,amQ];rfl),pE⟩
  refine dO alL (HA.mono fun _ _ h=>h.2 hok) ?_;rintro _ Qp ⟨rfl,oD⟩;refine ⟨_,rfl,?_⟩;clear HA;iterate 17 refine zQ ?_
  rw [Gg (by omega) (by rw [l8];exact PK ahV (by rw [hR];exact hok))];exact ⟨fun h=>absurd h (by decide),fun _=>⟨rfl,oD.low⟩⟩
 iterate 19 refine zQ ?_
 have xU:St w.heap.size w w7 [_,_,_,_]:=S8.re [0,1,2,3] (by decide);rw [BZ (r:=(Q,an)) (by omega) (by rw [l8];exact Td (by omega))];exact ⟨fun _=>⟨b2,A1,c1,A2,c2,A3,c3,rfl,xU⟩,fun h=>absurd rfl h⟩
theorem CO (A:Option Addr) (c:Nat) (l:List Ev) (w:World) (h:Rd w w.heap.size 6 A l.length (bg l)) (hl:l.length≤1152921504606846976):
    Calls Tryz.prog 35 #[.slice A l.length c] w (Tf w (aV l)):=by
 have S:=(St.start w).bH h;refine fE 19 Tryz.func35 ?_;refine cw [0] ?_;iterate 2 refine zQ ?_
 refine gV (V:=fun b=>pV b 0) (row:=bV 0 0 0 (.slice none 0 0) (.slice none 0 0) iW) (t:=57) S (wn rfl) rfl rfl (iN rfl (Tryz.zeroValue57 _) rfl) ?_;intro b1 w2 S3;iterate 6 refine zQ ?_
 have HT:=fun w h=>He A c l w h hl
 by_cases ht:(aV l).2.2=0
 ·refine dO ab1 ((HT _ (St.rd 1 S3 rfl)).mono fun _ _ h=>h.1 ht) ?_;rintro _ w4 ⟨b7,A8,c9,zL,c11,Mr,c13,rfl,T6⟩;refine ⟨_,rfl,?_⟩;unfold nO at T6;have S5:=S3.ext T6 rfl;clear HT T6 S3;change St _ _ _ [.blk b7 (Fe ((aV l).1.ep) ((aV l).1.nx) ((aV l).1.gv) (.slice A8 ((aV l).1.ready.length) c9) (.slice zL ((aV l).1.bC.length) c11) ((aV l).1.ws) (.slice Mr ((aV l).2.1.length) c13)) 137,.bG 2 A8 ((aV l).1.ready.length) (((aV l).1.ready).flatMap fP.cells),.bG 4 zL ((aV l).1.bC.length) (((aV l).1.bC).flatMap Ls.cells),.own 79 4 (.slice Mr ((aV l).2.1.length) c13) ((aV l).2.1.length) (((aV l).2.1).flatMap iK.cells),.blk b1 (bV 0 0 0 (.slice none 0 0) (.slice none 0 0) iW) 57,.rd 6 A l.length ((l).flatMap Ev.cells)] at S5;iterate 22 refine zQ ?_
  refine vv (aj rfl rfl (aG (cs:=(bV ((aV l).1.ep) ((aV l).1.nx) ((aV l).1.gv) (.slice A8 ((aV l).1.ready.length) c9) (.slice zL ((aV l).1.bC.length) c11) ((aV l).1.ws)).toList) Tryz.underlying57 rfl jy rfl (St.rg 0 S5 rfl (ZK)))) ?_;refine saq 4 S5 jy ?_;intro FT gH;iterate 5 refine zQ ?_
  have jR:St w.heap.size w FT [_,_]:=gH.re [1,2] (by decide);refine ⟨A8,c9,zL,c11,?_,jR⟩;rw [ht];rfl
 refine dO ab1 ((HT _ (St.rd 1 S3 rfl)).mono fun _ _ h=>h.2 ht) ?_;rintro _ JR ⟨rfl,T19⟩;refine ⟨_,rfl,?_⟩;have iD:=S3.on T19;clear HT T19 S3;change St _ _ _ [.blk b1 (bV 0 0 0 (.slice none 0 0) (.slice none 0 0) iW) 57,.rd 6 A l.length ((l).flatMap Ev.cells)] at iD;refine zQ ?_;refine zQ ?_;refine zQ ?_;iterate 2 refine zQ ?_
 refine zQ ?_;iterate 4 refine zQ ?_
 refine zQ ?_;refine zQ ?_;refine zQ ?_;refine Ql (vv (v:= .agg (bV 0 0 0 (.slice none 0 0) (.slice none 0 0) iW)) yz ?_);refine zQ ?_;refine saq 0 iD jy ?_;intro ZH qP;iterate 6 refine zQ ?_
 have ig:=qP.aR [1,0];have hz:=G9 ht;refine ⟨none,0,none,0,?_,?_⟩
 · rw [hz.1];rfl
 · rw [hz.1];exact Gj ig
theorem Jc (A:Option Addr) (c:Nat) (l:List Ev) (w:World) (h:Rd w w.heap.size 6 A l.length (bg l)) (hl:l.length≤1152921504606846976):
    Calls Tryz.prog 129 #[.slice A l.length c] w (PL w (aV l)):=by
 have S:=(St.start w).bH h;refine fE 18 Tryz.func129 ?_;refine cw [0] ?_;iterate 9 refine zQ ?_
 have HT:=fun w h=>He A c l w h hl
 by_cases ht:(aV l).2.2=0
 ·refine dO ab1 ((HT _ (St.rd 0 S rfl)).mono fun _ _ h=>h.1 ht) ?_;rintro _ w1 ⟨b4,A5,c6,A7,c8,A9,c10,rfl,T3⟩;refine ⟨_,rfl,?_⟩;unfold nO at T3;have S2:=S.ext T3 rfl;clear HT T3 S;iterate 29 refine zQ ?_
  have jQ:St w.heap.size w w1 [_]:=S2.re [3] (by decide);have lq:=jQ.aZ 0 rfl;refine ⟨A9,c10,?_,lq⟩;rw [ht];rfl
 refine dO ab1 ((HT _ (St.rd 0 S rfl)).mono fun _ _ h=>h.2 ht) ?_;rintro _ CG ⟨rfl,T15⟩;refine ⟨_,rfl,?_⟩;have jH:=S.on T15;clear HT T15 S;iterate 25 refine zQ ?_
 have jR:=jH.aR [0];have hz:=G9 ht;refine ⟨none,0,?_,?_⟩
 · rw [hz.2];rfl
 · rw [hz.2];exact aJ jR
def j5 (w:World) (r:bO×Int) (e:Ending) (w':World):Prop:= ∃ A c,∃ _:r.1.evs.length≤c,e= .returned (.tuple #[.agg #[iV r.1.role,iV r.1.ep,iV r.1.fr,iV r.1.tg,iV r.1.rd,.slice A r.1.evs.length c],iV r.2])∧St w.heap.size w w' [.bG 6 A r.1.evs.length (bg r.1.evs)]
def WT (w:World) (r:bO×iK×Bool×Int) (e:Ending) (w':World):Prop:= ∃ A c,∃ _:r.1.evs.length≤c,e= .returned (.tuple #[.agg #[iV r.1.role,iV r.1.ep,iV r.1.fr,iV r.1.tg,iV r.1.rd,.slice A r.1.evs.length c],r.2.1.val,.bool r.2.2.1,iV r.2.2.2])∧St w.heap.size w w' [.bG 6 A r.1.evs.length (bg r.1.evs)]
def N7 (w:World) (r:List Ev×Bool×Int) (e:Ending) (w':World):Prop:= ∃ A c,∃ _:r.1.length≤c,e= .returned (.tuple #[.slice A r.1.length c,.bool r.2.1,iV r.2.2])∧St w.heap.size w w' [.bG 6 A r.1.length (bg r.1)]
def N8 (w:World) (ro ep fr tg rd:Int) (l:List Ev) (e:Ending) (w':World):Prop:= ∃ A c,e= .returned (.agg #[iV ro,iV ep,iV fr,iV tg,iV rd,.slice A l.length c])∧St w.heap.size w w' [.own 75 6 (.slice A l.length c) l.length (bg l)]
theorem jM (n:Int) (w:World):
    Calls Tryz.prog 130 #[iV n] w (zV w (decide (0≤n∧n<5))):=by
 have S:=St.start w;refine fE 9 Tryz.func130 ?_;refine cw [0] ?_;iterate 8 refine zQ ?_
 by_cases h1:0≤n
 ·iterate 3 refine zQ ?_
  by_cases h2:n<5
  ·iterate 7 refine zQ ?_
   exact ⟨congrArg (fun b=>Ending.returned (.bool b)) (decide_eq_true (by omega)).symm,S.low⟩
  iterate 7 refine zQ ?_
  exact ⟨congrArg (fun b=>Ending.returned (.bool b)) (decide_eq_false (by omega)).symm,S.low⟩
 iterate 10 refine zQ ?_
 exact ⟨congrArg (fun b=>Ending.returned (.bool b)) (decide_eq_false (by omega)).symm,S.low⟩
theorem PN (ro ep fr tg rd:Int) (A:Option Addr) (c:Nat) (l:List Ev) (w:World) (h:Rd w w.heap.size 6 A l.length (bg l)) (hl:l.length≤1152921504606846976):
    Calls Tryz.prog 148 #[.agg #[iV ro,iV ep,iV fr,iV tg,iV rd,.slice A l.length c]] w (zV w (decide (bn ⟨ro,ep,fr,tg,rd,l⟩))):=by
 have S:=(St.start w).bH h;refine fE 110 Tryz.func148 ?_;refine cw [0] ?_;iterate 2 refine zQ ?_
 refine gD S ?_;intro b1 w2 S3;iterate 8 refine zQ ?_
 by_cases h4:ro=0
 ·iterate 8 refine zQ ?_
  by_cases h5:0≤ep
  ·iterate 4 refine zQ ?_
   by_cases h6:ep≤1048576
   ·iterate 5 refine zQ ?_
    by_cases h7:fr=0
    ·iterate 5 refine zQ ?_
     by_cases h8:tg=0
     ·iterate 5 refine zQ ?_
      by_cases h9:rd=0
      ·iterate 6 refine zQ ?_
       by_cases h10:((l.length:Nat):Int)=0
       ·iterate 8 refine zQ ?_
        exact ⟨congrArg (fun b=>Ending.returned (.bool b)) (decide_eq_true (by unfold bn;dsimp only;omega)).symm,S3.low⟩
       iterate 8 refine zQ ?_
       exact ⟨congrArg (fun b=>Ending.returned (.bool b)) (decide_eq_false (by unfold bn;dsimp only;omega)).symm,S3.low⟩
      iterate 14 refine zQ ?_
      exact ⟨congrArg (fun b=>Ending.returned (.bool b)) (decide_eq_false (by unfold bn;dsimp only;omega)).symm,S3.low⟩
     iterate 19 refine zQ ?_
     exact ⟨congrArg (fun b=>Ending.returned (.bool b)) (decide_eq_false (by unfold bn;dsimp only;omega)).symm,S3.low⟩
    iterate 24 refine zQ ?_
    exact ⟨congrArg (fun b=>Ending.returned (.bool b)) (decide_eq_false (by unfold bn;dsimp only;omega)).symm,S3.low⟩
   iterate 29 refine zQ ?_
   exact ⟨congrArg (fun b=>Ending.returned (.bool b)) (decide_eq_false (by unfold bn;dsimp only;omega)).symm,S3.low⟩
  iterate 33 refine zQ ?_
  exact ⟨congrArg (fun b=>Ending.returned (.bool b)) (decide_eq_false (by unfold bn;dsimp only;omega)).symm,S3.low⟩
 iterate 11 refine zQ ?_
 by_cases h11:ep<1
 ·iterate 17 refine zQ ?_
  exact ⟨congrArg (fun b=>Ending.returned (.bool b)) (decide_eq_false (by unfold bn;dsimp only;omega)).symm,S3.low⟩
 iterate 4 refine zQ ?_
 by_cases h12:1048576<ep
 ·iterate 13 refine zQ ?_
  exact ⟨congrArg (fun b=>Ending.returned (.bool b)) (decide_eq_false (by unfold bn;dsimp only;omega)).symm,S3.low⟩
 iterate 17 refine zQ ?_
 by_cases iQ:ro=1
 ·iterate 9 refine zQ ?_
  by_cases Zr:fr=0
  ·iterate 4 refine zQ ?_
   by_cases V3:tg=0
   ·iterate 5 refine zQ ?_
    by_cases h16:rd=0
    ·iterate 9 refine zQ ?_
     exact ⟨congrArg (fun b=>Ending.returned (.bool b)) (decide_eq_true (by unfold bn;dsimp only;omega)).symm,S3.low⟩
    iterate 9 refine zQ ?_
    exact ⟨congrArg (fun b=>Ending.returned (.bool b)) (decide_eq_false (by unfold bn;dsimp only;omega)).symm,S3.low⟩
   iterate 14 refine zQ ?_
   exact ⟨congrArg (fun b=>Ending.returned (.bool b)) (decide_eq_false (by unfold bn;dsimp only;omega)).symm,S3.low⟩
  iterate 18 refine zQ ?_
  exact ⟨congrArg (fun b=>Ending.returned (.bool b)) (decide_eq_false (by unfold bn;dsimp only;omega)).symm,S3.low⟩
 iterate 7 refine zQ ?_
 by_cases kF:ro=2
 ·iterate 9 refine zQ ?_
  by_cases h18:fr=0
  ·iterate 4 refine zQ ?_
   by_cases WU:0≤tg∧tg<5
   ·have WV:=fun (w:World)=>jM tg w
    rw [decide_eq_true WU] at WV;refine qB yC (WV _) ?_;rintro _ Bh ⟨rfl,WW⟩;refine ⟨_,rfl,?_⟩;have ig:=S3.on WW;clear WW S3;iterate 4 refine zQ ?_
    by_cases Me:0≤rd
    ·iterate 5 refine zQ ?_
     by_cases qO:rd≤4
     ·iterate 9 refine zQ ?_
      exact ⟨congrArg (fun b=>Ending.returned (.bool b)) (decide_eq_true (by unfold bn;dsimp only;omega)).symm,ig.low⟩
     iterate 9 refine zQ ?_
     exact ⟨congrArg (fun b=>Ending.returned (.bool b)) (decide_eq_false (by unfold bn;dsimp only;omega)).symm,ig.low⟩
    iterate 14 refine zQ ?_
    exact ⟨congrArg (fun b=>Ending.returned (.bool b)) (decide_eq_false (by unfold bn;dsimp only;omega)).symm,ig.low⟩
   have amR:=fun (w:World)=>jM tg w
   rw [decide_eq_false WU] at amR;refine qB yC (amR _) ?_;rintro _ JV ⟨rfl,acD⟩;refine ⟨_,rfl,?_⟩;have qM:=S3.on acD;clear acD S3;iterate 18 refine zQ ?_
   exact ⟨congrArg (fun b=>Ending.returned (.bool b)) (decide_eq_false (by unfold bn;dsimp only;omega)).symm,qM.low⟩
  iterate 23 refine zQ ?_
  exact ⟨congrArg (fun b=>Ending.returned (.bool b)) (decide_eq_false (by unfold bn;dsimp only;omega)).symm,S3.low⟩
 iterate 7 refine zQ ?_
 by_cases h30:ro=3
 ·iterate 9 refine zQ ?_
  by_cases h31:fr=0
  ·iterate 4 refine zQ ?_
   by_cases amS:0≤tg∧tg<5
   ·have amT:=fun (w:World)=>jM tg w
    rw [decide_eq_true amS] at amT;refine qB yC (amT _) ?_;rintro _ WX ⟨rfl,amU⟩;refine ⟨_,rfl,?_⟩;have kC:=S3.on amU;clear amU S3;iterate 4 refine zQ ?_
    by_cases h37:rd=0
    ·iterate 9 refine zQ ?_
     exact ⟨congrArg (fun b=>Ending.returned (.bool b)) (decide_eq_true (by unfold bn;dsimp only;omega)).symm,kC.low⟩
    iterate 9 refine zQ ?_
    exact ⟨congrArg (fun b=>Ending.returned (.bool b)) (decide_eq_false (by unfold bn;dsimp only;omega)).symm,kC.low⟩
   have amV:=fun (w:World)=>jM tg w
   rw [decide_eq_false amS] at amV;refine qB yC (amV _) ?_;rintro _ w39 ⟨rfl,amW⟩;refine ⟨_,rfl,?_⟩;have vV:=S3.on amW;clear amW S3;iterate 13 refine zQ ?_
   exact ⟨congrArg (fun b=>Ending.returned (.bool b)) (decide_eq_false (by unfold bn;dsimp only;omega)).symm,vV.low⟩
  iterate 18 refine zQ ?_
  exact ⟨congrArg (fun b=>Ending.returned (.bool b)) (decide_eq_false (by unfold bn;dsimp only;omega)).symm,S3.low⟩
 iterate 7 refine zQ ?_
 by_cases h42:ro=4
 ·iterate 9 refine zQ ?_
  by_cases amX:0≤fr∧fr<5
  ·have amY:=fun (w:World)=>jM fr w
   rw [decide_eq_true amX] at amY;refine dO yC (amY _) ?_;rintro _ w45 ⟨rfl,Rh⟩;refine ⟨_,rfl,?_⟩;have qj:=S3.on Rh;clear Rh S3;iterate 3 refine zQ ?_
   by_cases h48:tg=0
   ·iterate 5 refine zQ ?_
    by_cases h49:rd=0
    ·iterate 9 refine zQ ?_
     exact ⟨congrArg (fun b=>Ending.returned (.bool b)) (decide_eq_true (by unfold bn;dsimp only;omega)).symm,qj.low⟩
    iterate 9 refine zQ ?_
    exact ⟨congrArg (fun b=>Ending.returned (.bool b)) (decide_eq_false (by unfold bn;dsimp only;omega)).symm,qj.low⟩
   iterate 14 refine zQ ?_
   exact ⟨congrArg (fun b=>Ending.returned (.bool b)) (decide_eq_false (by unfold bn;dsimp only;omega)).symm,qj.low⟩
  have amZ:=fun (w:World)=>jM fr w
  rw [decide_eq_false amX] at amZ;refine dO yC (amZ _) ?_;rintro _ Zq ⟨rfl,am0⟩;refine ⟨_,rfl,?_⟩;have oF:=S3.on am0;clear am0 S3;iterate 17 refine zQ ?_
  exact ⟨congrArg (fun b=>Ending.returned (.bool b)) (decide_eq_false (by unfold bn;dsimp only;omega)).symm,oF.low⟩
 iterate 15 refine zQ ?_
 exact ⟨congrArg (fun b=>Ending.returned (.bool b)) (decide_eq_false (by unfold bn;dsimp only;omega)).symm,S3.low⟩
theorem cK (ro ep fr tg rd:Int) (A:Option Addr) (c:Nat) (l:List Ev) (w:World) (h:Rd w w.heap.size 6 A l.length (bg l)) (hl:l.length≤1152921504606846976):
    Calls Tryz.prog 119 #[.agg #[iV ro,iV ep,iV fr,iV tg,iV rd,.slice A l.length c]] w (Q0 w (au ⟨ro,ep,fr,tg,rd,l⟩)):=by
 have S:=(St.start w).bH h;refine fE 16 Tryz.func119 ?_;refine cw [0] ?_;iterate 2 refine zQ ?_
 refine gD S ?_;intro b1 w2 S3;iterate 7 refine zQ ?_
 have HC:=fun (w:World) (h:Rd w w.heap.size 6 A l.length (bg l))=>PN ro ep fr tg rd A c l w h hl
 by_cases hs:bn ⟨ro,ep,fr,tg,rd,l⟩
 ·rw [decide_eq_true hs] at HC;refine dO agb (HC _ (St.rd 1 S3 rfl)) ?_;rintro _ w4 ⟨rfl,hb6⟩;refine ⟨_,rfl,?_⟩;have S5:=S3.on hb6;clear hb6 S3;iterate 11 refine zQ ?_
  refine dO alF (CO A c l _ (St.rd 1 S5 rfl) (by omega)) ?_;rintro _ Ee ⟨A7,c8,A9,c10,rfl,T13⟩;refine ⟨_,rfl,?_⟩;have lq:=S5.ext T13 rfl;iterate 3 refine zQ ?_
  refine gV (V:=fun b=>pV b 0) (row:=bV 0 0 0 (.slice none 0 0) (.slice none 0 0) iW) (t:=57) lq (wn rfl) rfl rfl (iN rfl (Tryz.zeroValue57 _) rfl) ?_;intro b14 FR jR;refine saq 0 jR jy ?_;intro JR iD;iterate 6 refine zQ ?_
  by_cases h19:(aV l).2.2=0
  ·iterate 13 refine zQ ?_
   exact ⟨fQ (by first | exact (lI ‹_› ‹_›).symm | exact (Gi ‹_›).symm | exact (K3 (b:=⟨ro,ep,fr,tg,rd,l⟩) ‹_›).symm),iD.low⟩
  iterate 12 refine zQ ?_
  exact ⟨fQ (by first | exact (lI ‹_› ‹_›).symm | exact (Gi ‹_›).symm | exact (K3 (b:=⟨ro,ep,fr,tg,rd,l⟩) ‹_›).symm),iD.low⟩
 rw [decide_eq_false hs] at HC;refine dO agb (HC _ (St.rd 1 S3 rfl)) ?_;rintro _ ZH ⟨rfl,WC⟩;refine ⟨_,rfl,?_⟩;have qP:=S3.on WC;clear WC S3;iterate 12 refine zQ ?_
 exact ⟨fQ (by first | exact (lI ‹_› ‹_›).symm | exact (Gi ‹_›).symm | exact (K3 (b:=⟨ro,ep,fr,tg,rd,l⟩) ‹_›).symm),qP.low⟩
theorem akL {l k:List Ev}:l.flatMap Ev.cells++k.flatMap Ev.cells=(l++k).flatMap Ev.cells:=by simp
theorem kM (A:Option Addr) (n c:Nat) (l:List Value) (w:World) (h:Rd w w.heap.size 6 A n l) (hone: ∀ u∈l,u.oneCell'=true) (hc:n*48≤reachBytes):
    Calls Tryz.prog 164 #[.slice A n c] w (iM w 75 6 n l):=by
 unfold reachBytes at hc;have S:=(St.start w).bH h;refine fE 8 Tryz.func164 ?_;refine cw [0] ?_;iterate 9 refine zQ ?_
 cases A with
 | none=>
  obtain ⟨rfl,rfl⟩:=EX h;refine vv (v:= .bool true) (ah rfl rfl rfl (uf Tryz.underlying40)) ?_;iterate 11 refine zQ ?_
  exact iM.of (Below.refl _ _) (iw _ _ _ _)
 | some a=>
  refine vv (v:= .bool false) (ah rfl rfl rfl (uf Tryz.underlying40)) ?_;iterate 7 refine zQ ?_
  refine rX (V:=fun b=> .slice (aD b 0) 0 0) (row:= #[]) (t:=75) (n:=0) (s:=6) (xs:=[]) S (wn rfl) rfl rfl (aK (vs:=[]) rfl trivial (by kernel_rfl)) (by simp) (Nat.zero_le _) rfl ?_;intro b1 w2 S3;refine zQ ?_;refine dB (news:=l) (xs':=l) 0 S3 (wn rfl) rfl rfl rfl rfl rfl rfl (St.rd 1 S3 rfl) Tryz.underlying40 lN rfl (by decide) hone (by simp only [maxLen];omega) (by omega) rfl ?_;intro A4 c5 w6 hc8 oZ S7;iterate 5 refine zQ ?_
  have jE:=S7.aR [1];have ho:=jE.own 0 rfl;simp only [Nat.zero_add] at ho⊢;exact iM.of jE.low ho
theorem pX (ro ep fr tg rd:Int) (A:Option Addr) (c:Nat) (l:List Ev) (A':Option Addr) (c':Nat) (k:List Ev) (w:World) (h:Rd w w.heap.size 6 A l.length (bg l)) (h':Rd w w.heap.size 6 A' k.length (bg k)) (hb:(l.length+k.length)*48≤reachBytes):
    Calls Tryz.prog 128 #[.agg #[iV ro,iV ep,iV fr,iV tg,iV rd,.slice A l.length c],.slice A' k.length c'] w (N8 w ro ep fr tg rd (l++k)):=by
 have S:=((St.start w).bH h').bH h;clear h h';unfold reachBytes at hb;refine fE 12 Tryz.func128 ?_;refine cw [0,1] ?_;iterate 2 refine zQ ?_
 refine gD S ?_;intro b1 w2 S3;refine eU S3 dK ?_;intro b4 w5 S6;iterate 6 refine zQ ?_
 refine dO EF (kM A l.length c _ _ (St.rd 2 S6 rfl) (dF l) (by unfold reachBytes;omega)) ?_;rintro _ Ee ⟨A7,c8,rfl,LG,auP⟩;refine ⟨_,rfl,?_⟩;have lq:=S6.rU LG auP;refine zQ ?_;refine dB (news:=(k).flatMap Ev.cells) (xs':=(l++k).flatMap Ev.cells) 0 lq (wn rfl) rfl rfl rfl rfl rfl rfl (St.rd 4 lq rfl) Tryz.underlying40 lN rfl (by decide) (dF _) (by simp only [maxLen];omega) (by omega) (akL) ?_;intro ZL c14 FR hc17 hm18 jR;refine zQ ?_;refine lQ 2 jR qV ?_;intro zJ kr;iterate 5 refine zQ ?_
 refine sa 1 kr aC ?_;intro Bh ig;iterate 4 refine zQ ?_
 have mE:=ig.aR [4,3,2,1];have hl:(l++k).length=l.length+k.length:=List.length_append;rw [←hl] at mE;exact ⟨ZL,c14,by rw [hl];rfl,mE⟩
theorem iE (ro ep fr tg rd:Int) (A:Option Addr) (c:Nat) (l:List Ev) (w:World) (h:Rd w w.heap.size 6 A l.length (bg l)) (hb:l.length*48≤reachBytes):
  Calls Tryz.prog 128 #[.agg #[iV ro,iV ep,iV fr,iV tg,iV rd,.slice A l.length c],.slice none 0 0] w (N8 w ro ep fr tg rd l):=by
 have:=pX ro ep fr tg rd A c l none 0 [] w h Rd.none_ (by simpa using hb);rw [List.append_nil] at this;exact this
theorem Hf (ro ep fr tg rd:Int) (A:Option Addr) (c:Nat) (l:List Ev) (e:Int) (w:World) (h:Rd w w.heap.size 6 A l.length (bg l)) (hb:l.length*48≤reachBytes):
    Calls Tryz.prog 95 #[.agg #[iV ro,iV ep,iV fr,iV tg,iV rd,.slice A l.length c],iV e] w (j5 w (iB ⟨ro,ep,fr,tg,rd,l⟩ e)):=by
 have S:=(St.start w).bH h;have hb2:=hb;unfold reachBytes at hb2;refine fE 35 Tryz.func95 ?_;refine cw [0,1] ?_;iterate 2 refine zQ ?_
 refine gD S ?_;intro b1 w2 S3;refine eU S3 dK ?_;intro b4 w5 S6;iterate 7 refine zQ ?_
 refine cab lG S6 (cK ro ep fr tg rd A c l _ (St.rd 2 S6 rfl) (by omega)) ?_;intro w7 S8;iterate 7 refine zQ ?_
 by_cases h10:au ⟨ro,ep,fr,tg,rd,l⟩=0
 ·have hsh:=(dJ h10).1;unfold bn at hsh;have hln:=dY (dJ h10).2;dsimp only at hsh hln;iterate 8 refine zQ ?_
  by_cases h11:e<1
  ·iterate 11 refine zQ ?_
   refine vv gB ?_;refine sa 0 S8 aC ?_;intro Qr qK;iterate 7 refine zQ ?_
   have jH:=qK.aR [2,1,0];rw [show iB ⟨ro,ep,fr,tg,rd,l⟩ e=(⟨0,0,0,0,0,[]⟩,2) from by unfold iB;(try dsimp only);exact jO];exact ⟨none,0,kR,rfl,aJ jH⟩
  iterate 3 refine zQ ?_
  by_cases V3:1048576<e
  ·iterate 8 refine zQ ?_
   refine vv gB ?_;refine sa 0 S8 aC ?_;intro w16 kT;iterate 7 refine zQ ?_
   have iD:=kT.aR [2,1,0];rw [show iB ⟨ro,ep,fr,tg,rd,l⟩ e=(⟨0,0,0,0,0,[]⟩,2) from by unfold iB;(try dsimp only);exact jO];exact ⟨none,0,kR,rfl,aJ iD⟩
  iterate 10 refine zQ ?_
  by_cases h19:ro=0
  ·iterate 10 refine zQ ?_
   by_cases h20:e≤ep
   ·iterate 7 refine zQ ?_
    refine vv gB ?_;refine sa 0 S8 aC ?_;intro Bh ig;iterate 7 refine zQ ?_
    have mE:=ig.aR [2,1,0];rw [show iB ⟨ro,ep,fr,tg,rd,l⟩ e=(⟨0,0,0,0,0,[]⟩,15) from by unfold iB;(try dsimp only);exact jO];exact ⟨none,0,kR,rfl,aJ mE⟩
   iterate 11 refine zQ ?_
   refine vv (v:= .agg #[iV 1,iV e,iV 0,iV 0,iV 0,.slice none 0 0]) gZ ?_;refine sa 0 S8 aC ?_;intro JU iX;iterate 5 refine zQ ?_
   have kD:=iX.aR [2,1,0];rw [show iB ⟨ro,ep,fr,tg,rd,l⟩ e=(⟨1,e,0,0,0,[]⟩,0) from by unfold iB;(try dsimp only);exact jO];exact ⟨none,0,kR,rfl,aJ kD⟩
  iterate 7 refine zQ ?_
  refine vv gB ?_;refine sa 0 S8 aC ?_;intro JV qM;iterate 7 refine zQ ?_
  have sj:=qM.aR [2,1,0];rw [show iB ⟨ro,ep,fr,tg,rd,l⟩ e=(⟨0,0,0,0,0,[]⟩,8) from by unfold iB;(try dsimp only);exact jO];exact ⟨none,0,kR,rfl,aJ sj⟩
 iterate 7 refine zQ ?_
 refine vv gB ?_;refine zQ ?_;refine sa 0 S8 aC ?_;intro V4 mF;iterate 7 refine zQ ?_
 have pE:=mF.aR [2,1,0];rw [show iB ⟨ro,ep,fr,tg,rd,l⟩ e=(⟨0,0,0,0,0,[]⟩,au ⟨ro,ep,fr,tg,rd,l⟩) from by unfold iB;(try dsimp only);exact jO];exact ⟨none,0,kR,rfl,aJ pE⟩
theorem aa5 (ro ep fr tg rd:Int) (A:Option Addr) (c:Nat) (l:List Ev) (t:Int) (w:World) (h:Rd w w.heap.size 6 A l.length (bg l)) (hb:l.length*48≤reachBytes):
    Calls Tryz.prog 109 #[.agg #[iV ro,iV ep,iV fr,iV tg,iV rd,.slice A l.length c],iV t] w (j5 w (xW ⟨ro,ep,fr,tg,rd,l⟩ t)):=by
 have S:=(St.start w).bH h;have hb2:=hb;unfold reachBytes at hb2;refine fE 44 Tryz.func109 ?_;refine cw [0,1] ?_;iterate 2 refine zQ ?_
 refine gD S ?_;intro b1 w2 S3;refine eU S3 dK ?_;intro b4 w5 S6;iterate 7 refine zQ ?_
 refine cab lG S6 (cK ro ep fr tg rd A c l _ (St.rd 2 S6 rfl) (by omega)) ?_;intro w7 S8;iterate 7 refine zQ ?_
 by_cases h10:au ⟨ro,ep,fr,tg,rd,l⟩=0
 ·have hsh:=(dJ h10).1;unfold bn at hsh;have hln:=dY (dJ h10).2;dsimp only at hsh hln;iterate 8 refine zQ ?_
  by_cases am1:0≤t∧t<5
  ·have am2:=fun (w:World)=>jM t w
   rw [decide_eq_true am1] at am2;refine dO yC (am2 _) ?_;rintro _ CG ⟨rfl,acy⟩;refine ⟨_,rfl,?_⟩;have jH:=S8.on acy;clear acy S8;iterate 9 refine zQ ?_
   by_cases h16:ro=2
   ·iterate 12 refine zQ ?_
    refine vv gB ?_;refine sa 0 jH aC ?_;intro JR iD;iterate 7 refine zQ ?_
    have lg:=iD.aR [2,1,0];rw [show xW ⟨ro,ep,fr,tg,rd,l⟩ t=(⟨0,0,0,0,0,[]⟩,12) from by unfold xW;(try dsimp only);exact jO];exact ⟨none,0,kR,rfl,aJ lg⟩
   iterate 4 refine zQ ?_
   by_cases h20:ro=3
   ·iterate 8 refine zQ ?_
    refine vv gB ?_;refine sa 0 jH aC ?_;intro Bh ig;iterate 7 refine zQ ?_
    have mE:=ig.aR [2,1,0];rw [show xW ⟨ro,ep,fr,tg,rd,l⟩ t=(⟨0,0,0,0,0,[]⟩,12) from by unfold xW;(try dsimp only);exact jO];exact ⟨none,0,kR,rfl,aJ mE⟩
   iterate 10 refine zQ ?_
   by_cases Me:ro=1
   ·iterate 9 refine zQ ?_
    by_cases qO:ep=1048576
    ·iterate 7 refine zQ ?_
     refine vv gB ?_;refine sa 0 jH aC ?_;intro IQ qJ;iterate 7 refine zQ ?_
     have qM:=qJ.aR [2,1,0];rw [show xW ⟨ro,ep,fr,tg,rd,l⟩ t=(⟨0,0,0,0,0,[]⟩,14) from by unfold xW;(try dsimp only);exact jO];exact ⟨none,0,kR,rfl,aJ qM⟩
    iterate 12 refine zQ ?_
    refine lQ 1 jH fM ?_;intro V7 tF;refine zQ ?_;refine lQ 1 tF fM ?_;intro Zx pE;iterate 5 refine zQ ?_
    refine dO pW (iE 2 ep fr t rd A c l _ (St.rd 2 pE rfl) hb) ?_;rintro _ VO ⟨A33,c34,rfl,T37⟩;refine ⟨_,rfl,?_⟩;have nL:=pE.ext T37 rfl;refine sa 1 nL aC ?_;intro Zy yV;iterate 5 refine zQ ?_
    have vV:=yV.aR [3,2,1];have hcp:=(cO (vV.own 0 rfl)).1;have xU:=vV.aZ 0 rfl;rw [show xW ⟨ro,ep,fr,tg,rd,l⟩ t=(⟨2,ep,fr,t,rd,l⟩,0) from by unfold xW;(try dsimp only);exact jO];exact ⟨A33,c34,kR,rfl,xU⟩
   iterate 7 refine zQ ?_
   refine vv gB ?_;refine sa 0 jH aC ?_;intro Ux tu;iterate 7 refine zQ ?_
   have Ar:=tu.aR [2,1,0];rw [show xW ⟨ro,ep,fr,tg,rd,l⟩ t=(⟨0,0,0,0,0,[]⟩,7) from by unfold xW;(try dsimp only);exact jO];exact ⟨none,0,kR,rfl,aJ Ar⟩
  have am3:=fun (w:World)=>jM t w
  rw [decide_eq_false am1] at am3;refine dO yC (am3 _) ?_;rintro _ UJ ⟨rfl,hb48⟩;refine ⟨_,rfl,?_⟩;have uy:=S8.on hb48;clear hb48 S8;iterate 7 refine zQ ?_
  refine vv gB ?_;refine sa 0 uy aC ?_;intro Qq rO;iterate 7 refine zQ ?_
  have sw:=rO.aR [2,1,0];rw [show xW ⟨ro,ep,fr,tg,rd,l⟩ t=(⟨0,0,0,0,0,[]⟩,2) from by unfold xW;(try dsimp only);exact jO];exact ⟨none,0,kR,rfl,aJ sw⟩
 iterate 7 refine zQ ?_
 refine vv gB ?_;refine zQ ?_;refine sa 0 S8 aC ?_;intro w52 vG;iterate 7 refine zQ ?_
 have jw:=vG.aR [2,1,0];rw [show xW ⟨ro,ep,fr,tg,rd,l⟩ t=(⟨0,0,0,0,0,[]⟩,au ⟨ro,ep,fr,tg,rd,l⟩) from by unfold xW;(try dsimp only);exact jO];exact ⟨none,0,kR,rfl,aJ jw⟩
theorem Ms (ro ep fr tg rd:Int) (A:Option Addr) (c:Nat) (l:List Ev) (hv:Int) (w:World) (h:Rd w w.heap.size 6 A l.length (bg l)) (hb:l.length*48≤reachBytes):
    Calls Tryz.prog 157 #[.agg #[iV ro,iV ep,iV fr,iV tg,iV rd,.slice A l.length c],iV hv] w (j5 w (bF ⟨ro,ep,fr,tg,rd,l⟩ hv)):=by
 have S:=(St.start w).bH h;have hb2:=hb;unfold reachBytes at hb2;refine fE 55 Tryz.func157 ?_;refine cw [0,1] ?_;iterate 2 refine zQ ?_
 refine gD S ?_;intro b1 w2 S3;refine eU S3 dK ?_;intro b4 w5 S6;iterate 7 refine zQ ?_
 refine cab lG S6 (cK ro ep fr tg rd A c l _ (St.rd 2 S6 rfl) (by omega)) ?_;intro w7 S8;iterate 6 refine zQ ?_
 by_cases h10:au ⟨ro,ep,fr,tg,rd,l⟩=0
 ·have hsh:=(dJ h10).1;unfold bn at hsh;have hln:=dY (dJ h10).2;dsimp only at hsh hln;iterate 11 refine zQ ?_
  by_cases h11:ro=2
  ·iterate 15 refine zQ ?_
   by_cases h12:hv<0
   ·iterate 13 refine zQ ?_
    refine vv gB ?_;refine sa 0 S8 aC ?_;intro CG jH;iterate 6 refine zQ ?_
    have gH:=jH.aR [2,1,0];rw [show bF ⟨ro,ep,fr,tg,rd,l⟩ hv=(⟨0,0,0,0,0,[]⟩,2) from by unfold bF;(try dsimp only);exact jO];exact ⟨none,0,kR,rfl,aJ gH⟩
   iterate 6 refine zQ ?_
   by_cases h16:((l.length:Nat):Int)<hv
   ·iterate 7 refine zQ ?_
    refine vv gB ?_;refine sa 0 S8 aC ?_;intro JR iD;iterate 6 refine zQ ?_
    have lg:=iD.aR [2,1,0];rw [show bF ⟨ro,ep,fr,tg,rd,l⟩ hv=(⟨0,0,0,0,0,[]⟩,2) from by unfold bF;(try dsimp only);exact jO];exact ⟨none,0,kR,rfl,aJ lg⟩
   iterate 24 refine zQ ?_
   by_cases h20:hv=((l.length:Nat):Int)
   ·iterate 12 refine zQ ?_
    refine lQ 1 S8 fM ?_;intro Bh ig;refine zQ ?_;refine lQ 1 ig fM ?_;intro JZ jB;iterate 6 refine zQ ?_
    refine dO pW (iE 3 ep fr tg 0 A c l _ (St.rd 2 jB rfl) hb) ?_;rintro _ JV ⟨A25,c26,rfl,T29⟩;refine ⟨_,rfl,?_⟩;have qM:=jB.ext T29 rfl;refine sa 1 qM aC ?_;intro V4 mF;iterate 5 refine zQ ?_
    have pE:=mF.aR [3,2,1];have hcp:=(cO (pE.own 0 rfl)).1;have qY:=pE.aZ 0 rfl;rw [show bF ⟨ro,ep,fr,tg,rd,l⟩ hv=(⟨3,ep,fr,tg,0,l⟩,0) from by unfold bF;(try dsimp only);exact jO];exact ⟨A25,c26,kR,rfl,qY⟩
   iterate 4 refine zQ ?_
   by_cases h34:rd=4
   ·iterate 8 refine zQ ?_
    refine lQ 1 S8 fM ?_;intro VO nL;refine zQ ?_;refine lQ 1 nL fM ?_;intro NQ oG;iterate 6 refine zQ ?_
    refine dO pW (iE 3 ep fr tg 0 A c l _ (St.rd 2 oG rfl) hb) ?_;rintro _ Zt ⟨Em,c40,rfl,T43⟩;refine ⟨_,rfl,?_⟩;have tC:=oG.ext T43 rfl;refine sa 1 tC aC ?_;intro L9 mW;iterate 5 refine zQ ?_
    have qj:=mW.aR [3,2,1];have hcp:=(cO (qj.own 0 rfl)).1;have uy:=qj.aZ 0 rfl;rw [show bF ⟨ro,ep,fr,tg,rd,l⟩ hv=(⟨3,ep,fr,tg,0,l⟩,0) from by unfold bF;(try dsimp only);exact jO];exact ⟨Em,c40,kR,rfl,uy⟩
   iterate 9 refine zQ ?_
   refine vv (v:=iV (rd+1)) jv ?_;refine zQ ?_;refine lQ 1 S8 fM ?_;intro UE sD;iterate 6 refine zQ ?_
   refine dO pW (iE ro ep fr tg (rd+1) A c l _ (St.rd 2 sD rfl) hb) ?_;rintro _ w52 ⟨UQ,c51,rfl,T54⟩;refine ⟨_,rfl,?_⟩;have vG:=sD.ext T54 rfl;refine sa 1 vG aC ?_;intro Zv yT;iterate 5 refine zQ ?_
   have sF:=yT.aR [3,2,1];have hcp:=(cO (sF.own 0 rfl)).1;have yU:=sF.aZ 0 rfl;rw [show bF ⟨ro,ep,fr,tg,rd,l⟩ hv=(⟨ro,ep,fr,tg,rd+1,l⟩,0) from by unfold bF;(try dsimp only);exact jO];exact ⟨UQ,c51,kR,rfl,yU⟩
  iterate 4 refine zQ ?_
  by_cases h59:ro=3
  ·iterate 11 refine zQ ?_
   by_cases h60:hv<0
   ·iterate 13 refine zQ ?_
    refine vv gB ?_;refine sa 0 S8 aC ?_;intro w61 FV;iterate 6 refine zQ ?_
    have uO:=FV.aR [2,1,0];rw [show bF ⟨ro,ep,fr,tg,rd,l⟩ hv=(⟨0,0,0,0,0,[]⟩,2) from by unfold bF;(try dsimp only);exact jO];exact ⟨none,0,kR,rfl,aJ uO⟩
   iterate 6 refine zQ ?_
   by_cases h64:((l.length:Nat):Int)<hv
   ·iterate 7 refine zQ ?_
    refine vv gB ?_;refine sa 0 S8 aC ?_;intro w65 Bj;iterate 6 refine zQ ?_
    have oN:=Bj.aR [2,1,0];rw [show bF ⟨ro,ep,fr,tg,rd,l⟩ hv=(⟨0,0,0,0,0,[]⟩,2) from by unfold bF;(try dsimp only);exact jO];exact ⟨none,0,kR,rfl,aJ oN⟩
   iterate 24 refine zQ ?_
   refine dO pW (iE ro ep fr tg rd A c l _ (St.rd 2 S8 rfl) hb) ?_;rintro _ UA ⟨A68,c69,rfl,T72⟩;refine ⟨_,rfl,?_⟩;have qh:=S8.ext T72 rfl;refine sa 1 qh aC ?_;intro w73 JM;iterate 5 refine zQ ?_
   have vH:=JM.aR [3,2,1];have hcp:=(cO (vH.own 0 rfl)).1;have FP:=vH.aZ 0 rfl;rw [show bF ⟨ro,ep,fr,tg,rd,l⟩ hv=(⟨ro,ep,fr,tg,rd,l⟩,0) from by unfold bF;(try dsimp only);exact jO];exact ⟨A68,c69,kR,rfl,FP⟩
  iterate 7 refine zQ ?_
  refine vv gB ?_;refine sa 0 S8 aC ?_;intro UF Bg;iterate 6 refine zQ ?_
  have Aq:=Bg.aR [2,1,0];rw [show bF ⟨ro,ep,fr,tg,rd,l⟩ hv=(⟨0,0,0,0,0,[]⟩,7) from by unfold bF;(try dsimp only);exact jO];exact ⟨none,0,kR,rfl,aJ Aq⟩
 iterate 6 refine zQ ?_
 refine vv gB ?_;refine zQ ?_;refine sa 0 S8 aC ?_;intro Mc pF;iterate 6 refine zQ ?_
 have UG:=pF.aR [2,1,0];rw [show bF ⟨ro,ep,fr,tg,rd,l⟩ hv=(⟨0,0,0,0,0,[]⟩,au ⟨ro,ep,fr,tg,rd,l⟩) from by unfold bF;(try dsimp only);exact jO];exact ⟨none,0,kR,rfl,aJ UG⟩
theorem Eo (ro ep fr tg rd:Int) (A:Option Addr) (c:Nat) (l:List Ev) (e f:Int) (w:World) (h:Rd w w.heap.size 6 A l.length (bg l)) (hb:l.length*48≤reachBytes):
    Calls Tryz.prog 154 #[.agg #[iV ro,iV ep,iV fr,iV tg,iV rd,.slice A l.length c],iV e,iV f] w (j5 w (dn ⟨ro,ep,fr,tg,rd,l⟩ e f)):=by
 have S:=(St.start w).bH h;have hb2:=hb;unfold reachBytes at hb2;refine fE 66 Tryz.func154 ?_;refine cw [0,1,2] ?_;iterate 2 refine zQ ?_
 refine gD S ?_;intro b1 w2 S3;refine eU S3 dK ?_;intro b4 w5 S6;iterate 7 refine zQ ?_
 refine cab lG S6 (cK ro ep fr tg rd A c l _ (St.rd 2 S6 rfl) (by omega)) ?_;intro w7 S8;iterate 7 refine zQ ?_
 by_cases h10:au ⟨ro,ep,fr,tg,rd,l⟩=0
 ·have hsh:=(dJ h10).1;unfold bn at hsh;have hln:=dY (dJ h10).2;dsimp only at hsh hln;iterate 8 refine zQ ?_
  by_cases h11:e<1
  ·iterate 16 refine zQ ?_
   refine vv gB ?_;refine sa 0 S8 aC ?_;intro Qr qK;iterate 7 refine zQ ?_
   have jH:=qK.aR [2,1,0];rw [show dn ⟨ro,ep,fr,tg,rd,l⟩ e f=(⟨0,0,0,0,0,[]⟩,2) from by unfold dn;(try dsimp only);exact jO];exact ⟨none,0,kR,rfl,aJ jH⟩
  iterate 3 refine zQ ?_
  by_cases V3:1048576<e
  ·iterate 13 refine zQ ?_
   refine vv gB ?_;refine sa 0 S8 aC ?_;intro w16 kT;iterate 7 refine zQ ?_
   have iD:=kT.aR [2,1,0];rw [show dn ⟨ro,ep,fr,tg,rd,l⟩ e f=(⟨0,0,0,0,0,[]⟩,2) from by unfold dn;(try dsimp only);exact jO];exact ⟨none,0,kR,rfl,aJ iD⟩
  iterate 4 refine zQ ?_
  by_cases WU:0≤f∧f<5
  ·have WV:=fun (w:World)=>jM f w
   rw [decide_eq_true WU] at WV;refine qB yC (WV _) ?_;rintro _ Bh ⟨rfl,WW⟩;refine ⟨_,rfl,?_⟩;have ig:=S8.on WW;clear WW S8;iterate 10 refine zQ ?_
   by_cases Me:ro=0
   ·iterate 36 refine zQ ?_
    by_cases qO:e≤ep
    ·iterate 7 refine zQ ?_
     refine vv gB ?_;refine sa 0 ig aC ?_;intro IQ qJ;iterate 7 refine zQ ?_
     have qM:=qJ.aR [2,1,0];rw [show dn ⟨ro,ep,fr,tg,rd,l⟩ e f=(⟨0,0,0,0,0,[]⟩,15) from by unfold dn;(try dsimp only);exact jO];exact ⟨none,0,kR,rfl,aJ qM⟩
    iterate 12 refine zQ ?_
    refine vv (v:= .agg #[iV 4,iV e,iV f,iV 0,iV 0,.slice none 0 0]) gZ ?_;refine sa 0 ig aC ?_;intro V7 tF;iterate 5 refine zQ ?_
    have mF:=tF.aR [2,1,0];rw [show dn ⟨ro,ep,fr,tg,rd,l⟩ e f=(⟨4,e,f,0,0,[]⟩,0) from by unfold dn;(try dsimp only);exact jO];exact ⟨none,0,kR,rfl,aJ mF⟩
   iterate 4 refine zQ ?_
   by_cases h32:ro=4
   ·iterate 15 refine zQ ?_
    by_cases h33:ep=e
    ·iterate 6 refine zQ ?_
     by_cases h34:fr=f
     ·iterate 9 refine zQ ?_
      refine dO pW (iE ro ep fr tg rd A c l _ (St.rd 2 ig rfl) hb) ?_;rintro _ NQ ⟨NY,NZ,rfl,T39⟩;refine ⟨_,rfl,?_⟩;have oG:=ig.ext T39 rfl;refine sa 1 oG aC ?_;intro UH xU;iterate 7 refine zQ ?_
      have tC:=xU.aR [3,2,1];have hcp:=(cO (tC.own 0 rfl)).1;have tu:=tC.aZ 0 rfl;rw [show dn ⟨ro,ep,fr,tg,rd,l⟩ e f=(⟨ro,ep,fr,tg,rd,l⟩,0) from by unfold dn;(try dsimp only);exact jO];exact ⟨NY,NZ,kR,rfl,tu⟩
     iterate 11 refine zQ ?_
     by_cases h44:e≤ep
     ·iterate 7 refine zQ ?_
      refine vv gB ?_;refine sa 0 ig aC ?_;intro w45 qj;iterate 7 refine zQ ?_
      have uy:=qj.aR [2,1,0];rw [show dn ⟨ro,ep,fr,tg,rd,l⟩ e f=(⟨0,0,0,0,0,[]⟩,15) from by unfold dn;(try dsimp only);exact jO];exact ⟨none,0,kR,rfl,aJ uy⟩
     iterate 12 refine zQ ?_
     refine vv (v:= .agg #[iV 4,iV e,iV f,iV 0,iV 0,.slice none 0 0]) gZ ?_;refine sa 0 ig aC ?_;intro UE sD;iterate 5 refine zQ ?_
     have rO:=sD.aR [2,1,0];rw [show dn ⟨ro,ep,fr,tg,rd,l⟩ e f=(⟨4,e,f,0,0,[]⟩,0) from by unfold dn;(try dsimp only);exact jO];exact ⟨none,0,kR,rfl,aJ rO⟩
    iterate 17 refine zQ ?_
    by_cases h51:e≤ep
    ·iterate 7 refine zQ ?_
     refine vv gB ?_;refine sa 0 ig aC ?_;intro w52 vG;iterate 7 refine zQ ?_
     have jw:=vG.aR [2,1,0];rw [show dn ⟨ro,ep,fr,tg,rd,l⟩ e f=(⟨0,0,0,0,0,[]⟩,15) from by unfold dn;(try dsimp only);exact jO];exact ⟨none,0,kR,rfl,aJ jw⟩
    iterate 12 refine zQ ?_
    refine vv (v:= .agg #[iV 4,iV e,iV f,iV 0,iV 0,.slice none 0 0]) gZ ?_;refine sa 0 ig aC ?_;intro Zv yT;iterate 5 refine zQ ?_
    have sF:=yT.aR [2,1,0];rw [show dn ⟨ro,ep,fr,tg,rd,l⟩ e f=(⟨4,e,f,0,0,[]⟩,0) from by unfold dn;(try dsimp only);exact jO];exact ⟨none,0,kR,rfl,aJ sF⟩
   iterate 8 refine zQ ?_
   refine vv gB ?_;refine sa 0 ig aC ?_;intro ZG uQ;iterate 7 refine zQ ?_
   have Qt:=uQ.aR [2,1,0];rw [show dn ⟨ro,ep,fr,tg,rd,l⟩ e f=(⟨0,0,0,0,0,[]⟩,8) from by unfold dn;(try dsimp only);exact jO];exact ⟨none,0,kR,rfl,aJ Qt⟩
  have am6:=fun (w:World)=>jM f w
  rw [decide_eq_false WU] at am6;refine qB yC (am6 _) ?_;rintro _ VY ⟨rfl,am7⟩;refine ⟨_,rfl,?_⟩;have uO:=S8.on am7;clear am7 S8;iterate 8 refine zQ ?_
  refine vv gB ?_;refine sa 0 uO aC ?_;intro w65 Bj;iterate 7 refine zQ ?_
  have oN:=Bj.aR [2,1,0];rw [show dn ⟨ro,ep,fr,tg,rd,l⟩ e f=(⟨0,0,0,0,0,[]⟩,2) from by unfold dn;(try dsimp only);exact jO];exact ⟨none,0,kR,rfl,aJ oN⟩
 iterate 7 refine zQ ?_
 refine vv gB ?_;refine zQ ?_;refine sa 0 S8 aC ?_;intro w68 xg;iterate 7 refine zQ ?_
 have lu:=xg.aR [2,1,0];rw [show dn ⟨ro,ep,fr,tg,rd,l⟩ e f=(⟨0,0,0,0,0,[]⟩,au ⟨ro,ep,fr,tg,rd,l⟩) from by unfold dn;(try dsimp only);exact jO];exact ⟨none,0,kR,rfl,aJ lu⟩
theorem CP (ro ep fr tg rd:Int) (A:Option Addr) (c:Nat) (l:List Ev) (e:Int) (w:World) (h:Rd w w.heap.size 6 A l.length (bg l)) (hb:l.length*48≤reachBytes):
    Calls Tryz.prog 162 #[.agg #[iV ro,iV ep,iV fr,iV tg,iV rd,.slice A l.length c],iV e] w (j5 w (fB ⟨ro,ep,fr,tg,rd,l⟩ e)):=by
 have S:=(St.start w).bH h;have hb2:=hb;unfold reachBytes at hb2;refine fE 28 Tryz.func162 ?_;refine cw [0,1] ?_;iterate 2 refine zQ ?_
 refine gD S ?_;intro b1 w2 S3;refine eU S3 dK ?_;intro b4 w5 S6;iterate 7 refine zQ ?_
 refine cab lG S6 (cK ro ep fr tg rd A c l _ (St.rd 2 S6 rfl) (by omega)) ?_;intro w7 S8;iterate 7 refine zQ ?_
 by_cases h10:au ⟨ro,ep,fr,tg,rd,l⟩=0
 ·have hsh:=(dJ h10).1;unfold bn at hsh;have hln:=dY (dJ h10).2;dsimp only at hsh hln;iterate 9 refine zQ ?_
  by_cases h11:ro=3
  ·iterate 10 refine zQ ?_
   by_cases h12:e≤ep
   ·iterate 7 refine zQ ?_
    refine vv gB ?_;refine sa 0 S8 aC ?_;intro CG jH;iterate 7 refine zQ ?_
    have gH:=jH.aR [2,1,0];rw [show fB ⟨ro,ep,fr,tg,rd,l⟩ e=(⟨0,0,0,0,0,[]⟩,15) from by unfold fB;(try dsimp only);exact jO];exact ⟨none,0,kR,rfl,aJ gH⟩
   iterate 12 refine zQ ?_
   refine vv (v:= .agg #[iV 0,iV ep,iV 0,iV 0,iV 0,.slice none 0 0]) gZ ?_;refine sa 0 S8 aC ?_;intro w16 kT;iterate 5 refine zQ ?_
   have iD:=kT.aR [2,1,0];rw [show fB ⟨ro,ep,fr,tg,rd,l⟩ e=(⟨0,ep,0,0,0,[]⟩,0) from by unfold fB;(try dsimp only);exact jO];exact ⟨none,0,kR,rfl,aJ iD⟩
  iterate 7 refine zQ ?_
  refine vv gB ?_;refine sa 0 S8 aC ?_;intro zJ kr;iterate 7 refine zQ ?_
  have qP:=kr.aR [2,1,0];rw [show fB ⟨ro,ep,fr,tg,rd,l⟩ e=(⟨0,0,0,0,0,[]⟩,7) from by unfold fB;(try dsimp only);exact jO];exact ⟨none,0,kR,rfl,aJ qP⟩
 iterate 7 refine zQ ?_
 refine vv gB ?_;refine zQ ?_;refine sa 0 S8 aC ?_;intro Qs mE;iterate 7 refine zQ ?_
 have jB:=mE.aR [2,1,0];rw [show fB ⟨ro,ep,fr,tg,rd,l⟩ e=(⟨0,0,0,0,0,[]⟩,au ⟨ro,ep,fr,tg,rd,l⟩) from by unfold fB;(try dsimp only);exact jO];exact ⟨none,0,kR,rfl,aJ jB⟩
section
variable {b:bO} {k m:Nat}
theorem yG (h:au b=0) (hr:b.role=2∨b.role=3) (hk:k≤b.evs.length) (hm:min (k+3) b.evs.length=k+m):iT b k=((b.evs.drop k).take m,decide (b.role=3∧k+m=b.evs.length),0):=by
 unfold iT;rw [if_neg (fun h1=>h1 h),if_neg (by omega),if_neg (by omega)];refine Prod.ext ?_ (Prod.ext ?_ rfl)
 ·simp only [Int.toNat_natCast];rw [List.take_eq_take_iff,List.length_drop];omega
 simp only [Int.toNat_natCast]
 congr 1
 exact propext ⟨fun h=>⟨h.1,by omega⟩,fun h=>⟨h.1,by omega⟩⟩
end
theorem Gl {b:bO} {e:Ev} (h:au b=0) (h1:bE e=0) (h2: ¬ e.kind=4) (h3:b.role=1∨b.role=2):gQ b e=
  if (jF (aV b.evs).1 e).2.2.1=false then (b,(jF (aV b.evs).1 e).2.1,false,0) else if 1999≤b.evs.length then (b,qD 14,false,0) else ({ b with evs:=b.evs++[e] },(jF (aV b.evs).1 e).2.1,true,0):=by
 unfold gQ;rw [if_neg (fun h1=>h1 h),if_neg (fun h=>h h1),if_neg h2,if_neg (by omega),if_neg (by omega)]
theorem Av (ro ep fr tg rd:Int) (A:Option Addr) (c:Nat) (l:List Ev) (w:World) (h:Rd w w.heap.size 6 A l.length (bg l)) (hl:l.length≤1152921504606846976):
    Calls Tryz.prog 127 #[.agg #[iV ro,iV ep,iV fr,iV tg,iV rd,.slice A l.length c]] w (zV w (decide (ro=1∨ro=2))):=by
 have S:=(St.start w).bH h;refine fE 11 Tryz.func127 ?_;refine cw [0] ?_;iterate 2 refine zQ ?_
 refine gD S ?_;intro b1 w2 S3;iterate 7 refine zQ ?_
 by_cases h4:ro=1
 ·iterate 11 refine zQ ?_
  exact ⟨congrArg (fun b=>Ending.returned (.bool b)) (decide_eq_true (by omega)).symm,S3.low⟩
 iterate 4 refine zQ ?_
 by_cases h5:ro=2
 ·iterate 7 refine zQ ?_
  exact ⟨congrArg (fun b=>Ending.returned (.bool b)) (decide_eq_true (by omega)).symm,S3.low⟩
 iterate 7 refine zQ ?_
 exact ⟨congrArg (fun b=>Ending.returned (.bool b)) (decide_eq_false (by omega)).symm,S3.low⟩
theorem Tg (ro ep fr tg rd:Int) (A:Option Addr) (c:Nat) (l:List Ev) (w:World) (h:Rd w w.heap.size 6 A l.length (bg l)) (hb:l.length*48≤reachBytes):
    Calls Tryz.prog 106 #[.agg #[iV ro,iV ep,iV fr,iV tg,iV rd,.slice A l.length c]] w (j5 w (eO ⟨ro,ep,fr,tg,rd,l⟩)):=by
 have S:=(St.start w).bH h;have hb2:=hb;unfold reachBytes at hb2;refine fE 30 Tryz.func106 ?_;refine cw [0] ?_;iterate 2 refine zQ ?_
 refine gD S ?_;intro b1 w2 S3;refine eU S3 dK ?_;intro b4 w5 S6;iterate 7 refine zQ ?_
 refine cab lG S6 (cK ro ep fr tg rd A c l _ (St.rd 2 S6 rfl) (by omega)) ?_;intro w7 S8;iterate 6 refine zQ ?_
 by_cases h10:au ⟨ro,ep,fr,tg,rd,l⟩=0
 ·have hsh:=(dJ h10).1;unfold bn at hsh;have hln:=dY (dJ h10).2;dsimp only at hsh hln;iterate 10 refine zQ ?_
  have HC:=fun (w:World) (h:Rd w w.heap.size 6 A l.length (bg l))=>Av ro ep fr tg rd A c l w h (by omega)
  by_cases hsv:ro=1∨ro=2
  ·rw [decide_eq_true hsv] at HC;refine dO QV (HC _ (St.rd 2 S8 rfl)) ?_;rintro _ Ee ⟨rfl,acE⟩;refine ⟨_,rfl,?_⟩;have lq:=S8.on acE;clear acE S8;iterate 12 refine zQ ?_
   refine vv (v:= .agg #[iV 1,iV ep,iV 0,iV 0,iV 0,.slice A l.length c]) gZ ?_;refine vv (v:= .agg #[iV 4,iV 0,iV 0,iV 0,iV 0,iV 0]) gZ ?_;refine Zo lq ?_;intro b14 FR jR;refine dO pW (pX 1 ep 0 0 0 A c l (aD b14 0) 1 [bU] _ (St.rd 3 jR rfl) (St.iG (xs:=bg [bU]) 0 jR rfl rfl rfl) (by simp only [List.length_cons,List.length_nil];unfold reachBytes;omega)) ?_;rintro _ zJ ⟨IW,c18,rfl,T21⟩;refine ⟨_,rfl,?_⟩;have kr:=jR.ext T21 rfl;refine eU kr dK ?_;intro NR JZ jB;refine sa 0 jB aC ?_;intro w25 kD;iterate 6 refine zQ ?_
   refine cab lG kD (cK 1 ep 0 0 0 IW c18 (l++[bU]) _ (St.ord 1 kD rfl) (by simp only [List.length_append,List.length_cons,List.length_nil,List.length_drop];omega)) ?_;intro JV qM;by_cases h30:au ⟨1,ep,0,0,0,l++[bU]⟩=0
   ·have hsh:=(dJ h30).1;unfold bn at hsh;have hln:=dY (dJ h30).2;dsimp only at hsh hln;iterate 9 refine zQ ?_
    refine sa 3 qM aC ?_;intro Zx pE;iterate 5 refine zQ ?_
    have qY:=pE.aR [5,4,3,2,0];have hcp:=(cO (qY.own 0 rfl)).1;have oD:=qY.aZ 0 rfl;rw [show eO ⟨ro,ep,fr,tg,rd,l⟩=(⟨1,ep,0,0,0,l++[bU]⟩,0) from by unfold eO;(try dsimp only);exact jO];exact ⟨IW,c18,kR,rfl,oD⟩
   iterate 6 refine zQ ?_
   refine vv gB ?_;refine sa 3 qM aC ?_;intro VO nL;iterate 6 refine zQ ?_
   have qN:=nL.aR [5,4,3,2,1,0];rw [show eO ⟨ro,ep,fr,tg,rd,l⟩=(⟨0,0,0,0,0,[]⟩,14) from by unfold eO;(try dsimp only);exact jO];exact ⟨none,0,kR,rfl,aJ qN⟩
  rw [decide_eq_false hsv] at HC;refine dO QV (HC _ (St.rd 2 S8 rfl)) ?_;rintro _ Zy ⟨rfl,WY⟩;refine ⟨_,rfl,?_⟩;have yV:=S8.on WY;clear WY S8;iterate 7 refine zQ ?_
  refine dO pW (iE ro ep fr tg rd A c l _ (St.rd 2 yV rfl) hb) ?_;rintro _ w43 ⟨A41,c42,rfl,T45⟩;refine ⟨_,rfl,?_⟩;have Ar:=yV.ext T45 rfl;refine sa 1 Ar aC ?_;intro UJ uy;iterate 6 refine zQ ?_
  have qX:=uy.aR [3,2,1];have hcp:=(cO (qX.own 0 rfl)).1;have sD:=qX.aZ 0 rfl;rw [show eO ⟨ro,ep,fr,tg,rd,l⟩=(⟨ro,ep,fr,tg,rd,l⟩,0) from by unfold eO;(try dsimp only);exact jO];exact ⟨A41,c42,kR,rfl,sD⟩
 iterate 6 refine zQ ?_
 refine vv gB ?_;refine zQ ?_;refine sa 0 S8 aC ?_;intro Qw sw;iterate 6 refine zQ ?_
 have oF:=sw.aR [2,1,0];rw [show eO ⟨ro,ep,fr,tg,rd,l⟩=(⟨0,0,0,0,0,[]⟩,au ⟨ro,ep,fr,tg,rd,l⟩) from by unfold eO;(try dsimp only);exact jO];exact ⟨none,0,kR,rfl,aJ oF⟩
theorem PO (ro ep fr tg rd:Int) (A:Option Addr) (c:Nat) (l:List Ev) (x:Ev) (w:World) (h:Rd w w.heap.size 6 A l.length (bg l)) (hb:l.length*48≤reachBytes):
    Calls Tryz.prog 151 #[.agg #[iV ro,iV ep,iV fr,iV tg,iV rd,.slice A l.length c],.agg #[iV x.kind,iV x.producer,iV x.id,iV x.body,iV x.aL,iV x.hno]] w (WT w (gQ ⟨ro,ep,fr,tg,rd,l⟩ x)):=by
 have S:=(St.start w).bH h;have hb2:=hb;unfold reachBytes at hb2;refine fE 80 Tryz.func151 ?_;refine cw [0,1] ?_;iterate 2 refine zQ ?_
 refine gD S ?_;intro b1 w2 S3;refine gD S3 ?_;intro b4 w5 S6;refine eU S6 dK ?_;intro b7 w8 S9;refine eU S9 rz ?_;intro b10 Ee lq;iterate 8 refine zQ ?_
 refine cab lG lq (cK ro ep fr tg rd A c l _ (St.rd 4 lq rfl) (by omega)) ?_;intro CG jH;iterate 6 refine zQ ?_
 by_cases h16:au ⟨ro,ep,fr,tg,rd,l⟩=0
 ·have hsh:=(dJ h16).1;unfold bn at hsh;have hln:=dY (dJ h16).2;dsimp only at hsh hln;iterate 10 refine zQ ?_
  refine cab alH jH (En x _) ?_;intro JR iD;iterate 6 refine zQ ?_
  by_cases h20:bE x=0
  ·iterate 11 refine zQ ?_
   by_cases hk4:x.kind=4
   ·iterate 6 refine zQ ?_
    refine vv gB ?_;refine zQ ?_;refine sa 1 iD aC ?_;intro Bh ig;refine sa 0 ig dh ?_;intro JZ jB;iterate 6 refine zQ ?_
    refine dI (rs:=[.cell 4 42,.cell 5 79,.tmp 6,.tmp 7]) (vs:=[.agg #[iV 0,iV 0,iV 0,iV 0,iV 0,.slice none 0 0],.agg #[iV 0,iV 0,iV 0,iV 0],.bool false,iV 3]) rfl ⟨⟨_,rfl,dQ 1 jB rfl Tryz.underlying42 rfl aC⟩,⟨_,rfl,dQ 0 jB rfl Tryz.underlying79 rfl dh⟩,rfl,rfl,trivial⟩ ?_;have iX:=jB.aR [4,3,2,1,0];rw [show gQ ⟨ro,ep,fr,tg,rd,l⟩ x=(⟨0,0,0,0,0,[]⟩,⟨0,0,0,0⟩,false,3) from by unfold gQ;(try dsimp only);exact jO];exact ⟨none,0,kR,rfl,aJ iX⟩
   iterate 12 refine zQ ?_
   by_cases h26:ro=3
   ·iterate 8 refine zQ ?_
    refine dO pW (iE ro ep fr tg rd A c l _ (St.rd 4 iD rfl) hb) ?_;rintro _ V7 ⟨A27,c28,rfl,T31⟩;refine ⟨_,rfl,?_⟩;have tF:=iD.ext T31 rfl;refine vv (v:= .agg #[iV 12,iV 0,iV 0,iV 0]) gZ ?_;refine sa 2 tF aC ?_;intro w32 qY;refine sa 1 qY dh ?_;intro WX kC;iterate 7 refine zQ ?_
    refine dI (rs:=[.cell 4 42,.cell 5 79,.tmp 6,.tmp 7]) (vs:=[.agg #[iV ro,iV ep,iV fr,iV tg,iV rd,.slice A27 l.length c28],.agg #[iV 12,iV 0,iV 0,iV 0],.bool false,iV 0]) rfl ⟨⟨_,rfl,dQ 2 kC rfl Tryz.underlying42 rfl aC⟩,⟨_,rfl,dQ 1 kC rfl Tryz.underlying79 rfl dh⟩,rfl,rfl,trivial⟩ ?_;have nL:=kC.aR [5,4,3,2,1];have hcp:=(cO (nL.own 0 rfl)).1;have qN:=nL.aZ 0 rfl;rw [show gQ ⟨ro,ep,fr,tg,rd,l⟩ x=(⟨ro,ep,fr,tg,rd,l⟩,⟨12,0,0,0⟩,false,0) from by unfold gQ;(try dsimp only);exact jO];exact ⟨A27,c28,kR,rfl,qN⟩
   iterate 8 refine zQ ?_
   have HC:=fun (w:World) (h:Rd w w.heap.size 6 A l.length (bg l))=>Av ro ep fr tg rd A c l w h (by omega)
   by_cases hsv:ro=1∨ro=2
   ·rw [decide_eq_true hsv] at HC;refine dO QV (HC _ (St.rd 4 iD rfl)) ?_;rintro _ Zy ⟨rfl,WY⟩;refine ⟨_,rfl,?_⟩;have yV:=iD.on WY;clear WY iD;iterate 12 refine zQ ?_
    refine dO alF (CO A c l _ (St.rd 4 yV rfl) (by omega)) ?_;rintro _ w45 ⟨A41,c42,A43,c44,rfl,T47⟩;refine ⟨_,rfl,?_⟩;have qj:=yV.ext T47 rfl;iterate 3 refine zQ ?_
    refine gV (V:=fun b=>pV b 0) (row:=bV 0 0 0 (.slice none 0 0) (.slice none 0 0) iW) (t:=57) qj (wn rfl) rfl rfl (iN rfl (Tryz.zeroValue57 _) rfl) ?_;intro UR Qq rO;refine saq 0 rO jy ?_;intro Zq oF;iterate 7 refine zQ ?_
    obtain ⟨R,hR⟩: ∃ R,jF (aV l).1 x=R:=⟨_,rfl⟩;have hql:=Te (l:=l);have HD:=fun A1 A2 c1 c2 w h1 h2=>uY (aV l).1.ep (aV l).1.nx (aV l).1.gv x.kind x.producer x.id x.body x.aL x.hno A1 A2 c1 c2 (aV l).1.ready (aV l).1.bC (aV l).1.ws w h1 h2 (by unfold reachBytes;omega) (by unfold reachBytes;omega)
    rw [show jF ⟨(aV l).1.ep,(aV l).1.nx,(aV l).1.gv,(aV l).1.ready,(aV l).1.bC,(aV l).1.ws⟩ ⟨x.kind,x.producer,x.id,x.body,x.aL,x.hno⟩=R from hR] at HD;refine dO QU (HD A41 A43 c42 c44 _ (St.bG 1 oF rfl) (St.bG 2 oF rfl)) ?_;rintro _ w57 ⟨A53,c54,Qy,ZM,rfl,T59⟩;refine ⟨_,rfl,?_⟩;have yU:=oF.ext T59 rfl;clear HD;iterate 5 refine zQ ?_
    refine gV (V:=fun b=>pV b 0) (row:=bV 0 0 0 (.slice none 0 0) (.slice none 0 0) iW) (t:=57) yU (wn rfl) rfl rfl (iN rfl (Tryz.zeroValue57 _) rfl) ?_;intro b60 w61 FV;refine eU FV rz ?_;intro b63 GZ xV;refine saq 1 xV jy ?_;intro NP oN;refine sa 0 oN dh ?_;intro w68 xg;iterate 8 refine zQ ?_
    cases hch:R.2.2.1
    ·iterate 5 refine zQ ?_
     have lu:=xg.drew;refine aN 7 lu [8,7] ?_;iterate 2 refine aF ?_
     refine aS 1 ?_;refine iH 1 rfl pW (iE ro ep fr tg rd A c l _ (St.rd 11 lu rfl) hb) ?_;rintro _ w75 ⟨A73,c74,rfl,T77⟩;refine ⟨_,rfl,?_⟩;have FP:=lu.ext T77 rfl;refine aF ?_;refine aS 3 ?_;refine sn 3 rfl 9 FP aC ?_;intro w78 Aq;refine aF ?_;refine aS 4 ?_;refine sn 4 rfl 8 Aq dh ?_;intro Mc pF;iterate 4 refine aF ?_
     iterate 3 refine zQ ?_
     refine dI (rs:=[.cell 4 42,.cell 5 79,.tmp 6,.tmp 7]) (vs:=[.agg #[iV ro,iV ep,iV fr,iV tg,iV rd,.slice A73 l.length c74],.agg #[iV R.2.1.code,iV R.2.1.gG,iV R.2.1.hno,iV R.2.1.body],.bool false,iV 0]) rfl ⟨⟨_,rfl,dQ 9 pF rfl Tryz.underlying42 rfl aC⟩,⟨_,rfl,dQ 8 pF rfl Tryz.underlying79 rfl dh⟩,rfl,rfl,trivial⟩ ?_;have CJ:=pF.aR [12,11,10,9,8,7,6,5,4,3,2,1];have hcp:=(cO (CJ.own 0 rfl)).1;have Bl:=CJ.aZ 0 rfl;rw [Gl (b:=⟨ro,ep,fr,tg,rd,l⟩) (e:=x) h16 h20 hk4 hsv,hR];rw [if_pos hch];exact ⟨A73,c74,kR,rfl,Bl⟩
    iterate 12 refine zQ ?_
    by_cases ana:1999≤l.length
    ·iterate 7 refine zQ ?_
     refine dO pW (iE ro ep fr tg rd A c l _ (St.rd 11 xg rfl) hb) ?_;rintro _ w88 ⟨A86,c87,rfl,T90⟩;refine ⟨_,rfl,?_⟩;have FQ:=xg.ext T90 rfl;refine vv (v:= .agg #[iV 14,iV 0,iV 0,iV 0]) gZ ?_;refine sa 9 FQ aC ?_;intro Zz vI;refine sa 8 vI dh ?_;intro w93 CF;iterate 6 refine zQ ?_
     refine dI (rs:=[.cell 4 42,.cell 5 79,.tmp 6,.tmp 7]) (vs:=[.agg #[iV ro,iV ep,iV fr,iV tg,iV rd,.slice A86 l.length c87],.agg #[iV 14,iV 0,iV 0,iV 0],.bool false,iV 0]) rfl ⟨⟨_,rfl,dQ 9 CF rfl Tryz.underlying42 rfl aC⟩,⟨_,rfl,dQ 8 CF rfl Tryz.underlying79 rfl dh⟩,rfl,rfl,trivial⟩ ?_;have Ef:=CF.aR [12,11,10,9,8,7,6,5,4,3,2,1];have hcp:=(cO (Ef.own 0 rfl)).1;have Bn:=Ef.aZ 0 rfl;rw [Gl (b:=⟨ro,ep,fr,tg,rd,l⟩) (e:=x) h16 h20 hk4 hsv,hR];rw [if_neg (by rw [hch];simp),if_pos ana];exact ⟨A86,c87,kR,rfl,Bn⟩
    iterate 7 refine zQ ?_
    have uP:=xg.drew;refine aN 9 uP [8,7] ?_;iterate 3 refine aF ?_
    refine aS 2 ?_;refine Dm 2 rfl uP ?_;intro ahW Ip l9;refine aF ?_;refine aS 3 ?_;refine iH 3 rfl pW (pX ro ep fr tg rd A c l (aD ahW 0) 1 [x] _ (St.rd 12 l9 rfl) (St.iG (xs:=bg [x]) 0 l9 rfl rfl rfl) (by simp only [List.length_cons,List.length_nil];unfold reachBytes;omega)) ?_;rintro _ Wj ⟨WZ,c105,rfl,auQ⟩;refine ⟨_,rfl,?_⟩;have wo:=l9.ext auQ rfl;refine aF ?_;refine aS 5 ?_;refine sn 5 rfl 10 wo aC ?_;intro VT pq;refine aF ?_;refine aS 6 ?_;refine sn 6 rfl 9 pq dh ?_;intro Q7 sH;iterate 4 refine aF ?_
    iterate 2 refine zQ ?_
    refine dI (rs:=[.cell 4 42,.cell 5 79,.tmp 6,.tmp 7]) (vs:=[.agg #[iV ro,iV ep,iV fr,iV tg,iV rd,.slice WZ ((l++[x]).length) c105],.agg #[iV R.2.1.code,iV R.2.1.gG,iV R.2.1.hno,iV R.2.1.body],.bool true,iV 0]) rfl ⟨⟨_,rfl,dQ 10 sH rfl Tryz.underlying42 rfl aC⟩,⟨_,rfl,dQ 9 sH rfl Tryz.underlying79 rfl dh⟩,rfl,rfl,trivial⟩ ?_;have ko:=sH.aR [13,12,11,10,9,8,7,6,5,4,3,2,1];have hcp:=(cO (ko.own 0 rfl)).1;have uG:=ko.aZ 0 rfl;rw [Gl (b:=⟨ro,ep,fr,tg,rd,l⟩) (e:=x) h16 h20 hk4 hsv,hR];rw [if_neg (by rw [hch];simp),if_neg ana];exact ⟨WZ,c105,kR,rfl,uG⟩
   rw [decide_eq_false hsv] at HC;refine dO QV (HC _ (St.rd 4 iD rfl)) ?_;rintro _ W9 ⟨rfl,agD⟩;refine ⟨_,rfl,?_⟩;have uI:=iD.on agD;clear agD iD;iterate 8 refine zQ ?_
   refine dO pW (iE ro ep fr tg rd A c l _ (St.rd 4 uI rfl) hb) ?_;rintro _ MX ⟨anc,ane,rfl,auR⟩;refine ⟨_,rfl,?_⟩;have pz:=uI.ext auR rfl;refine vv (v:= .agg #[iV 7,iV 0,iV 0,iV 0]) gZ ?_;refine sa 2 pz aC ?_;intro Q8 kH;refine sa 1 kH dh ?_;intro Ie nM;iterate 7 refine zQ ?_
   refine dI (rs:=[.cell 4 42,.cell 5 79,.tmp 6,.tmp 7]) (vs:=[.agg #[iV ro,iV ep,iV fr,iV tg,iV rd,.slice anc l.length ane],.agg #[iV 7,iV 0,iV 0,iV 0],.bool false,iV 0]) rfl ⟨⟨_,rfl,dQ 2 nM rfl Tryz.underlying42 rfl aC⟩,⟨_,rfl,dQ 1 nM rfl Tryz.underlying79 rfl dh⟩,rfl,rfl,trivial⟩ ?_;have rD:=nM.aR [5,4,3,2,1];have hcp:=(cO (rD.own 0 rfl)).1;have Xa:=rD.aZ 0 rfl;rw [show gQ ⟨ro,ep,fr,tg,rd,l⟩ x=(⟨ro,ep,fr,tg,rd,l⟩,⟨7,0,0,0⟩,false,0) from by unfold gQ;(try dsimp only);exact jO];exact ⟨anc,ane,kR,rfl,Xa⟩
  iterate 6 refine zQ ?_
  refine vv gB ?_;iterate 2 refine zQ ?_
  refine sa 1 iD aC ?_;intro ab6 qE;refine sa 0 qE dh ?_;intro Ih pI;iterate 6 refine zQ ?_
  refine dI (rs:=[.cell 4 42,.cell 5 79,.tmp 6,.tmp 7]) (vs:=[.agg #[iV 0,iV 0,iV 0,iV 0,iV 0,.slice none 0 0],.agg #[iV 0,iV 0,iV 0,iV 0],.bool false,iV (bE x)]) rfl ⟨⟨_,rfl,dQ 1 pI rfl Tryz.underlying42 rfl aC⟩,⟨_,rfl,dQ 0 pI rfl Tryz.underlying79 rfl dh⟩,rfl,rfl,trivial⟩ ?_;have xO:=pI.aR [4,3,2,1,0];rw [show gQ ⟨ro,ep,fr,tg,rd,l⟩ x=(⟨0,0,0,0,0,[]⟩,⟨0,0,0,0⟩,false,bE x) from by unfold gQ;(try dsimp only);exact jO];exact ⟨none,0,kR,rfl,aJ xO⟩
 iterate 6 refine zQ ?_
 refine vv gB ?_;iterate 2 refine zQ ?_
 refine sa 1 jH aC ?_;intro Kh uJ;refine sa 0 uJ dh ?_;intro auS Dz;iterate 6 refine zQ ?_
 refine dI (rs:=[.cell 4 42,.cell 5 79,.tmp 6,.tmp 7]) (vs:=[.agg #[iV 0,iV 0,iV 0,iV 0,iV 0,.slice none 0 0],.agg #[iV 0,iV 0,iV 0,iV 0],.bool false,iV (au ⟨ro,ep,fr,tg,rd,l⟩)]) rfl ⟨⟨_,rfl,dQ 1 Dz rfl Tryz.underlying42 rfl aC⟩,⟨_,rfl,dQ 0 Dz rfl Tryz.underlying79 rfl dh⟩,rfl,rfl,trivial⟩ ?_;have Dp:=Dz.aR [4,3,2,1,0];rw [show gQ ⟨ro,ep,fr,tg,rd,l⟩ x=(⟨0,0,0,0,0,[]⟩,⟨0,0,0,0⟩,false,au ⟨ro,ep,fr,tg,rd,l⟩) from by unfold gQ;(try dsimp only);exact jO];exact ⟨none,0,kR,rfl,aJ Dp⟩
theorem Ti (ro ep fr tg rd:Int) (A:Option Addr) (c:Nat) (l:List Ev) (hv:Int) (hlc:l.length≤c) (w:World) (h:Rd w w.heap.size 6 A l.length (bg l)) (hb:l.length*48≤reachBytes):
    Calls Tryz.prog 180 #[.agg #[iV ro,iV ep,iV fr,iV tg,iV rd,.slice A l.length c],iV hv] w (N7 w (iT ⟨ro,ep,fr,tg,rd,l⟩ hv)):=by
 have S:=(St.start w).bH h;have hb2:=hb;unfold reachBytes at hb2;refine fE 53 Tryz.func180 ?_;refine cw [0,1] ?_;iterate 2 refine zQ ?_
 refine gD S ?_;intro b1 w2 S3;iterate 9 refine zQ ?_
 refine cab lG S3 (cK ro ep fr tg rd A c l _ (St.rd 1 S3 rfl) (by omega)) ?_;intro w4 S5;iterate 6 refine zQ ?_
 by_cases h7:au ⟨ro,ep,fr,tg,rd,l⟩=0
 ·have hsh:=(dJ h7).1;unfold bn at hsh;have hln:=dY (dJ h7).2;dsimp only at hsh hln;iterate 11 refine zQ ?_
  by_cases h8:ro=2
  ·iterate 15 refine zQ ?_
   by_cases h9:hv<0
   ·iterate 21 refine zQ ?_
    have jE:=S5.aR [1,0];rw [show iT ⟨ro,ep,fr,tg,rd,l⟩ hv=([],false,2) from by unfold iT;(try dsimp only);exact jO];exact ⟨none,0,Nat.zero_le _,rfl,aJ jE⟩
   iterate 6 refine zQ ?_
   by_cases h11:((l.length:Nat):Int)<hv
   ·iterate 15 refine zQ ?_
    have lq:=S5.aR [1,0];rw [show iT ⟨ro,ep,fr,tg,rd,l⟩ hv=([],false,2) from by unfold iT;(try dsimp only);exact jO];exact ⟨none,0,Nat.zero_le _,rfl,aJ lq⟩
   iterate 8 refine zQ ?_
   obtain ⟨k,rfl⟩: ∃ k:Nat,hv=k:=⟨hv.toNat,by omega⟩;obtain ⟨m,hm⟩: ∃ m,min (k+3) l.length=k+m:=⟨min (k+3) l.length-k,by omega⟩;iterate 2 refine zQ ?_
   refine vv (v:=iV ((k+3:Nat):Int)) jv ?_;iterate 3 refine zQ ?_
   refine vv (v:=iV ((k+m:Nat):Int)) (rW (vs:=[iV ((k+3:Nat):Int),iV ((l.length:Nat):Int)]) rfl ⟨rfl,rfl,trivial⟩ fun _=>by rw [Qj,hm]) ?_;iterate 3 refine zQ ?_
   obtain ⟨ZL,ahX,auT,aCP⟩:=Cx (P:=Tryz.prog) (t:=40) (enc:=Ev.cells) (s:=6) (fun _=>rfl) (A:=A) (b:=l) (n:=l.length) (c:=c) (lo:=(some (iV ((k:Nat):Int)))) (hi:=(some (iV ((k+m:Nat):Int)))) (mx:=none) (l:=k) (k:=k+m) (q:=c) (m:=m) (c':=c-k) Tryz.underlying40 jT (QS k (k+m) rfl rfl (by omega) (by omega)) (by omega) (by omega) (by omega) (by omega) (by omega);have kT:=S5.bH (auT _ _ (S5.all 1 _ rfl));by_cases hr3:ro=3
   ·by_cases hend:((k+m:Nat):Int)=((l.length:Nat):Int)
    ·refine zQ ?_;have iD:=kT.drew;refine aN 19 iD [] ?_;iterate 4 refine aF ?_
     refine ak (v:= .slice ZL m (c-k)) 4 rfl iD (fun _ _=>(jq rfl rfl (iI rfl) (iI rfl) mD (ahX _))) ?_;iterate 3 refine aF ?_
     refine aS 5 ?_;refine iH 5 rfl EF (kM ZL m (c-k) _ _ (St.rd 0 iD rfl) (dF _) (by unfold reachBytes;omega)) ?_;rintro _ Zx ⟨A27,c28,rfl,acD,auU⟩;refine ⟨_,rfl,?_⟩;have pE:=iD.rU acD auU;iterate 12 refine aF ?_
     iterate 3 refine zQ ?_
     have tu:=pE.aR [3,2,1];have hcp:=(cO (tu.own 0 rfl)).1;have Ar:=tu.aZ 0 rfl;have hlm:((l.drop k).take m).length=m:=by rw [List.length_take,List.length_drop];omega
     rw [yG (b:=⟨ro,ep,fr,tg,rd,l⟩) h7 (by dsimp only;omega) (by dsimp only;omega) hm];dsimp only;rw [decide_eq_true ⟨hr3,by omega⟩];refine ⟨A27,c28,?_,?_,?_⟩
     · dsimp only;rw [hlm];exact hcp
     · dsimp only;rw [hlm];rfl
     · dsimp only;rw [hlm];exact Ar
    refine zQ ?_;have mW:=kT.drew;refine aN 19 mW [] ?_;iterate 4 refine aF ?_
    refine ak (v:= .slice ZL m (c-k)) 4 rfl mW (fun _ _=>(jq rfl rfl (iI rfl) (iI rfl) mD (ahX _))) ?_;iterate 3 refine aF ?_
    refine aS 5 ?_;refine iH 5 rfl EF (kM ZL m (c-k) _ _ (St.rd 0 mW rfl) (dF _) (by unfold reachBytes;omega)) ?_;rintro _ ZG ⟨A54,c55,rfl,auV,auW⟩;refine ⟨_,rfl,?_⟩;have uQ:=mW.rU auV auW;iterate 12 refine aF ?_
    iterate 3 refine zQ ?_
    have lu:=uQ.aR [3,2,1];have hcp:=(cO (lu.own 0 rfl)).1;have qh:=lu.aZ 0 rfl;have hlm:((l.drop k).take m).length=m:=by rw [List.length_take,List.length_drop];omega
    rw [yG (b:=⟨ro,ep,fr,tg,rd,l⟩) h7 (by dsimp only;omega) (by dsimp only;omega) hm];dsimp only;rw [decide_eq_false (fun h=>hend (by omega))];refine ⟨A54,c55,?_,?_,?_⟩
    · dsimp only;rw [hlm];exact hcp
    · dsimp only;rw [hlm];rfl
    · dsimp only;rw [hlm];exact qh
   refine zQ ?_;have Cz:=kT.drew;refine aN 19 Cz [] ?_;iterate 4 refine aF ?_
   refine ak (v:= .slice ZL m (c-k)) 4 rfl Cz (fun _ _=>(jq rfl rfl (iI rfl) (iI rfl) mD (ahX _))) ?_;iterate 3 refine aF ?_
   refine aS 5 ?_;refine iH 5 rfl EF (kM ZL m (c-k) _ _ (St.rd 0 Cz rfl) (dF _) (by unfold reachBytes;omega)) ?_;rintro _ Qu ⟨A81,c82,rfl,auX,auY⟩;refine ⟨_,rfl,?_⟩;have uh:=Cz.rU auX auY;iterate 12 refine aF ?_
   iterate 3 refine zQ ?_
   have vI:=uh.aR [3,2,1];have hcp:=(cO (vI.own 0 rfl)).1;have yR:=vI.aZ 0 rfl;have hlm:((l.drop k).take m).length=m:=by rw [List.length_take,List.length_drop];omega
   rw [yG (b:=⟨ro,ep,fr,tg,rd,l⟩) h7 (by dsimp only;omega) (by dsimp only;omega) hm];dsimp only;rw [decide_eq_false (fun h=>hr3 h.1)];refine ⟨A81,c82,?_,?_,?_⟩
   · dsimp only;rw [hlm];exact hcp
   · dsimp only;rw [hlm];rfl
   · dsimp only;rw [hlm];exact yR
  iterate 4 refine zQ ?_
  by_cases h94:ro=3
  ·iterate 11 refine zQ ?_
   by_cases h95:hv<0
   ·iterate 21 refine zQ ?_
    have Bn:=S5.aR [1,0];rw [show iT ⟨ro,ep,fr,tg,rd,l⟩ hv=([],false,2) from by unfold iT;(try dsimp only);exact jO];exact ⟨none,0,Nat.zero_le _,rfl,aJ Bn⟩
   iterate 6 refine zQ ?_
   by_cases h97:((l.length:Nat):Int)<hv
   ·iterate 15 refine zQ ?_
    have Aw:=S5.aR [1,0];rw [show iT ⟨ro,ep,fr,tg,rd,l⟩ hv=([],false,2) from by unfold iT;(try dsimp only);exact jO];exact ⟨none,0,Nat.zero_le _,rfl,aJ Aw⟩
   iterate 8 refine zQ ?_
   obtain ⟨k,rfl⟩: ∃ k:Nat,hv=k:=⟨hv.toNat,by omega⟩;obtain ⟨m,hm⟩: ∃ m,min (k+3) l.length=k+m:=⟨min (k+3) l.length-k,by omega⟩;iterate 2 refine zQ ?_
   refine vv (v:=iV ((k+3:Nat):Int)) jv ?_;iterate 3 refine zQ ?_
   refine vv (v:=iV ((k+m:Nat):Int)) (rW (vs:=[iV ((k+3:Nat):Int),iV ((l.length:Nat):Int)]) rfl ⟨rfl,rfl,trivial⟩ fun _=>by rw [Qj,hm]) ?_;iterate 3 refine zQ ?_
   obtain ⟨WQ,YK,apO,ay2⟩:=Cx (P:=Tryz.prog) (t:=40) (enc:=Ev.cells) (s:=6) (fun _=>rfl) (A:=A) (b:=l) (n:=l.length) (c:=c) (lo:=(some (iV ((k:Nat):Int)))) (hi:=(some (iV ((k+m:Nat):Int)))) (mx:=none) (l:=k) (k:=k+m) (q:=c) (m:=m) (c':=c-k) Tryz.underlying40 jT (QS k (k+m) rfl rfl (by omega) (by omega)) (by omega) (by omega) (by omega) (by omega) (by omega);have l9:=S5.bH (apO _ _ (S5.all 1 _ rfl));by_cases hr3:ro=3
   ·by_cases hend:((k+m:Nat):Int)=((l.length:Nat):Int)
    ·refine zQ ?_;have qG:=l9.drew;refine aN 19 qG [] ?_;iterate 4 refine aF ?_
     refine ak (v:= .slice WQ m (c-k)) 4 rfl qG (fun _ _=>(jq rfl rfl (iI rfl) (iI rfl) mD (YK _))) ?_;iterate 3 refine aF ?_
     refine aS 5 ?_;refine iH 5 rfl EF (kM WQ m (c-k) _ _ (St.rd 0 qG rfl) (dF _) (by unfold reachBytes;omega)) ?_;rintro _ W9 ⟨auZ,au0,rfl,apP,apQ⟩;refine ⟨_,rfl,?_⟩;have uI:=qG.rU apP apQ;iterate 12 refine aF ?_
     iterate 3 refine zQ ?_
     have rD:=uI.aR [3,2,1];have hcp:=(cO (rD.own 0 rfl)).1;have Xa:=rD.aZ 0 rfl;have hlm:((l.drop k).take m).length=m:=by rw [List.length_take,List.length_drop];omega
     rw [yG (b:=⟨ro,ep,fr,tg,rd,l⟩) h7 (by dsimp only;omega) (by dsimp only;omega) hm];dsimp only;rw [decide_eq_true ⟨hr3,by omega⟩];refine ⟨auZ,au0,?_,?_,?_⟩
     · dsimp only;rw [hlm];exact hcp
     · dsimp only;rw [hlm];rfl
     · dsimp only;rw [hlm];exact Xa
    refine zQ ?_;have oK:=l9.drew;refine aN 19 oK [] ?_;iterate 4 refine aF ?_
    refine ak (v:= .slice WQ m (c-k)) 4 rfl oK (fun _ _=>(jq rfl rfl (iI rfl) (iI rfl) mD (YK _))) ?_;iterate 3 refine aF ?_
    refine aS 5 ?_;refine iH 5 rfl EF (kM WQ m (c-k) _ _ (St.rd 0 oK rfl) (dF _) (by unfold reachBytes;omega)) ?_;rintro _ VU ⟨au1,c141,rfl,apR,apS⟩;refine ⟨_,rfl,?_⟩;have Dq:=oK.rU apR apS;iterate 12 refine aF ?_
    iterate 3 refine zQ ?_
    have Xb:=Dq.aR [3,2,1];have hcp:=(cO (Xb.own 0 rfl)).1;have ahY:=Xb.aZ 0 rfl;have hlm:((l.drop k).take m).length=m:=by rw [List.length_take,List.length_drop];omega
    rw [yG (b:=⟨ro,ep,fr,tg,rd,l⟩) h7 (by dsimp only;omega) (by dsimp only;omega) hm];dsimp only;rw [decide_eq_false (fun h=>hend (by omega))];refine ⟨au1,c141,?_,?_,?_⟩
    · dsimp only;rw [hlm];exact hcp
    · dsimp only;rw [hlm];rfl
    · dsimp only;rw [hlm];exact ahY
   refine zQ ?_;have BO:=l9.drew;refine EL (C:=fun w'=>St w.heap.size w w' [.rd 6 WQ m (((l.drop k).take m).flatMap Ev.cells),.blk b1 #[iV ro,iV ep,iV fr,iV tg,iV rd,.slice A l.length c] 42,.rd 6 A l.length ((l).flatMap Ev.cells)]) (n:=19) (listed:= #[false,false,false,false,false,false,false,false,false,false,false,false,false,false,false,false,false,false,false]) mixed rfl rfl ?_;refine ak (v:=pV b1 5) 0 rfl BO (fun _ _=>yfa _ Zd) ?_;refine ak (v:= .slice A l.length c) 1 rfl BO (fun _ YL=>(aj rfl rfl (aA Tryz.underlying40 rfl (St.cl 1 YL rfl rfl)))) ?_;refine ak (v:=iV ((k:Nat):Int)) 2 rfl BO (fun _ _=>ym) ?_;refine ak (v:=iV ((k+m:Nat):Int)) 3 rfl BO (fun _ _=>ym) ?_;refine ak (v:= .slice WQ m (c-k)) 4 rfl BO (fun _ _=>(jq rfl rfl (iI rfl) (iI rfl) mD (YK _))) ?_;refine ak (v:=pV b1 0) 6 rfl BO (fun _ _=>yfa _ Zc) ?_;refine ak (v:=iV ro) 7 rfl BO (fun _ apT=>(aj rfl rfl (aA Tryz.underlying3 rfl (St.cl 1 apT rfl rfl)))) ?_;refine ak (v:= .bool false) 8 rfl BO (fun _ _=>QZ hr3) ?_;refine aS 5 ?_;refine iH 5 rfl EF (kM WQ m (c-k) _ _ (St.rd 0 BO rfl) (dF _) (by unfold reachBytes;omega)) ?_;rintro _ auG ⟨anf,c168,rfl,apU,apV⟩;refine ⟨_,rfl,?_⟩;have wJ:=BO.rU apU apV;refine ⟨(St.del 0 wJ),?_⟩;refine ak (v:= .bool false) 9 rfl (St.del 0 wJ) (fun _ _=>ym) ?_;refine yw (i:=10) (n:=8) rfl (by kernel_rfl) (by kernel_rfl) (by kernel_rfl) (St.del 0 wJ) rfl (wg rfl rfl rfl rfl) rfl rfl ?_;refine yw (i:=11) (n:=7) rfl (by kernel_rfl) (by kernel_rfl) (by kernel_rfl) (St.del 0 wJ) rfl (wg rfl rfl rfl rfl) rfl rfl ?_;refine yw (i:=12) (n:=6) rfl (by kernel_rfl) (by kernel_rfl) (by kernel_rfl) (St.del 0 wJ) rfl (wg rfl rfl rfl rfl) rfl rfl ?_;refine yw (i:=13) (n:=5) rfl (by kernel_rfl) (by kernel_rfl) (by kernel_rfl) (St.del 0 wJ) rfl (wg rfl rfl rfl rfl) rfl rfl ?_;refine yw (i:=14) (n:=4) rfl (by kernel_rfl) (by kernel_rfl) (by kernel_rfl) (St.del 0 wJ) rfl (wg rfl rfl rfl rfl) rfl rfl ?_;refine ak (v:= .bool false) 15 rfl (St.del 0 wJ) (fun _ _=>ypF) ?_;refine ak (v:= .slice anf m c168) 16 rfl (St.del 0 wJ) (fun _ _=>ya) ?_;refine ak (v:= .bool false) 17 rfl (St.del 0 wJ) (fun _ _=>ya) ?_;refine ak (v:=iV 0) 18 rfl (St.del 0 wJ) (fun _ _=>ya) ?_;refine aF ?_;iterate 3 refine zQ ?_
   have Rc:=wJ.aR [3,2,1];have hcp:=(cO (Rc.own 0 rfl)).1;have au2:=Rc.aZ 0 rfl;have hlm:((l.drop k).take m).length=m:=by rw [List.length_take,List.length_drop];omega
   rw [yG (b:=⟨ro,ep,fr,tg,rd,l⟩) h7 (by dsimp only;omega) (by dsimp only;omega) hm];dsimp only;rw [decide_eq_false (fun h=>hr3 h.1)];refine ⟨anf,c168,?_,?_,?_⟩
   · dsimp only;rw [hlm];exact hcp
   · dsimp only;rw [hlm];rfl
   · dsimp only;rw [hlm];exact au2
  iterate 15 refine zQ ?_
  have JY:=S5.aR [1,0];rw [show iT ⟨ro,ep,fr,tg,rd,l⟩ hv=([],false,7) from by unfold iT;(try dsimp only);exact jO];exact ⟨none,0,Nat.zero_le _,rfl,aJ JY⟩
 iterate 15 refine zQ ?_
 have Wo:=S5.aR [1,0];rw [show iT ⟨ro,ep,fr,tg,rd,l⟩ hv=([],false,au ⟨ro,ep,fr,tg,rd,l⟩) from by unfold iT;(try dsimp only);exact jO];exact ⟨none,0,Nat.zero_le _,rfl,aJ Wo⟩
def FW (b:bO) (ep:Int) (d:Nat) (l:List Ev) (last:Bool):bO:=if last=true then ⟨1,ep,0,0,0,b.evs++l.drop d++[bU]⟩ else { b with evs:=b.evs++l.drop d }
theorem Oa {b:bO} {ep:Int} {d:Nat} {l:List Ev}:FW b ep d l true=⟨1,ep,0,0,0,b.evs++l.drop d++[bU]⟩:=rfl
theorem Ob {b:bO} {ep:Int} {d:Nat} {l:List Ev}:FW b ep d l false={ b with evs:=b.evs++l.drop d }:=rfl
theorem CQ {b:bO} {ep:Int} {k:Nat} {K:List Ev} {last:Bool} (h:au b=0) (hr:b.role=4) (he:b.ep=ep) (hk:k≤b.evs.length):cB b ep k K last=
  if ¬ (b.evs.drop k).take K.length=K.take (b.evs.length-k) then (bD,3) else if last=true∧k+K.length<b.evs.length then (bD,3)
  else if au (FW b ep (b.evs.length-k) K last)≠0 then (bD,3) else (FW b ep (b.evs.length-k) K last,0):=by
 unfold cB FW;rw [if_neg (fun h1=>h1 h),if_neg (fun h1=>h1 hr),if_neg (fun h1=>h1 he),if_neg (by omega),Int.toNat_natCast]
section
variable {l K:List Ev} {k d p i:Nat}
theorem afc (hd:l.length=k+d) (hp:min d K.length=p):((l.drop k).take K.length=K.take d)↔((l.drop k).take p=K.take p):=by
 have e1:(l.drop k).take K.length=(l.drop k).take p:=by rw [List.take_eq_take_iff,List.length_drop];omega
 have e2:K.take d=K.take p:=by rw [List.take_eq_take_iff];omega
 rw [e1,e2]
theorem aa6 (hp:min d K.length=p):K.drop p=K.drop d:=by
 rcases Nat.le_total d K.length with h | h
 ·rw [show p=d by omega]
 rw [List.drop_eq_nil_of_le h,List.drop_eq_nil_of_le (by omega)]
end
theorem afd {a b:Ev} (h:a=b) (w:World):(binOp .neq 75 (.agg #[iV a.kind,iV a.producer,iV a.id,iV a.body,iV a.aL,iV a.hno])
  (.agg #[iV b.kind,iV b.producer,iV b.id,iV b.body,iV b.aL,iV b.hno])).run Tryz.prog w= .ok (.bool false) w:=by
 rw [pQ,decide_eq_true h];rfl
theorem afe {a b:Ev} (h: ¬ a=b) (w:World):(binOp .neq 75 (.agg #[iV a.kind,iV a.producer,iV a.id,iV a.body,iV a.aL,iV a.hno])
  (.agg #[iV b.kind,iV b.producer,iV b.id,iV b.body,iV b.aL,iV b.hno])).run Tryz.prog w= .ok (.bool true) w:=by
 rw [pQ,decide_eq_false h];rfl
theorem akO {x y:List Ev} {k:Nat} {a b:Ev} (ha:x[k]? =some a) (hb:y[k]? =some b) (h: ¬ a=b): ¬ x=y:=fun e=>by
 rw [e,hb] at ha
 injection ha with h1
 exact h h1.symm
theorem Mt (A A':Option Addr) (c c' n:Nat) (xs ys:List Ev) (w:World) (h:Rd w w.heap.size 6 A n (bg xs)) (h':Rd w w.heap.size 6 A' n (bg ys)) (hx:xs.length=n) (hy:ys.length=n) (hn:n≤1152921504606846976):
    Calls Tryz.prog 181 #[.slice A n c,.slice A' n c'] w (zV w (decide (xs=ys))):=by
 have S:=((St.start w).bH h').bH h;clear h h';refine fE 26 Tryz.func181 ?_;refine cw [0,1] ?_;iterate 27 refine zQ ?_
 refine fH (X:=Nat) (fun xv=>[(0,.slice A n c),(1,.slice A' n c'),(4,.bool false),(12,iV ((n:Nat):Int)),(13,iV ((xv:Nat):Int))]) (fun xv wr=>(xv≤n)∧(xs.take xv=ys.take xv)∧St w.heap.size w wr [.rd 6 A n ((xs).flatMap Ev.cells),.rd 6 A' n ((ys).flatMap Ev.cells)]) (fun xv=>n-xv) (0) ?_ ?_ ?_
 ·exact ⟨Nat.zero_le _,rfl,S⟩
 ·exact ⟨rfl,rfl,rfl,rfl,rfl,trivial⟩
 rintro k w1 ⟨hi3,hi4,S2⟩
 try dsimp only at hi3 hi4 S2
 refine bq (l':=[(0,.slice A n c),(1,.slice A' n c'),(4,.bool false),(12,iV ((n:Nat):Int)),(13,iV ((k:Nat):Int))]) ⟨rfl,rfl,rfl,rfl,rfl,trivial⟩ (aW (aO ?_));by_cases h5:((k:Nat):Int)< ((n:Nat):Int)
 ·iterate 16 refine zQ ?_
  refine eH S2 mixed (by kernel_rfl) ?_;iterate 2 refine zQ ?_
  obtain ⟨b8,o9,rfl⟩:=Rd.addr (St.rd 0 S2 rfl) (by omega);obtain ⟨x10,Rj⟩:=FK k (St.rd 0 S2 rfl) (by omega);refine uv (fun _ _=>gM k) ?_;refine uv (v:= .agg #[iV x10.kind,iV x10.producer,iV x10.id,iV x10.body,iV x10.aL,iV x10.hno]) (fun _ Na=>(aj rfl rfl (aG (cs:=Ev.cells x10) Tryz.underlying75 rfl jT rfl (Rd.uN (St.rd 0 Na rfl) (fun _ _ h=>bS (enc:=Ev.cells) (sz:=6) (fun _=>rfl) Rj h))))) ?_;iterate 2 refine zQ ?_
  obtain ⟨b16,o17,rfl⟩:=Rd.addr (St.rd 1 S2 rfl) (by omega);obtain ⟨x18,BS⟩:=FK k (St.rd 1 S2 rfl) (by omega);refine uv (fun _ _=>gM k) ?_;refine uv (v:= .agg #[iV x18.kind,iV x18.producer,iV x18.id,iV x18.body,iV x18.aL,iV x18.hno]) (fun _ au3=>(aj rfl rfl (aG (cs:=Ev.cells x18) Tryz.underlying75 rfl jT rfl (Rd.uN (St.rd 1 au3 rfl) (fun _ _ h=>bS (enc:=Ev.cells) (sz:=6) (fun _=>rfl) BS h))))) ?_;by_cases hev:x10=x18
  ·refine uv (v:= .bool false) (fun _ _=>(ah rfl rfl rfl (yB (by kernel_rfl) (afd hev _)))) ?_;refine fC fun JZ jB=>?_
   iterate 6 refine zQ ?_
   refine vv (v:=iV ((k+1:Nat):Int)) jv ?_;iterate 2 refine zQ ?_
   refine bY (k+1) ?_ ⟨rfl,rfl,rfl,rfl,rfl,trivial⟩ (by first | omega | (dsimp only;omega));exact ⟨(by omega),(by rw [List.take_add_one,List.take_add_one,hi4,Rj,BS,hev]),jB⟩
  refine uv (v:= .bool true) (fun _ _=>(ah rfl rfl rfl (yB (by kernel_rfl) (afe hev _)))) ?_;refine fC fun IQ qJ=>?_
  iterate 14 refine zQ ?_
  exact ⟨congrArg (fun b=>Ending.returned (.bool b)) (decide_eq_false (akO Rj BS hev)).symm,qJ.low⟩
 iterate 17 refine zQ ?_
 obtain rfl:n=k:=by omega
 have he:xs=ys:=by rw [←List.take_of_length_le (Nat.le_of_eq hx),←List.take_of_length_le (l:=ys) (Nat.le_of_eq hy)];exact hi4
 exact ⟨congrArg (fun b=>Ending.returned (.bool b)) (decide_eq_true he).symm,S2.low⟩
theorem CS (ro ep fr tg rd:Int) (A:Option Addr) (c:Nat) (l:List Ev) (e at_:Int) (A2:Option Addr) (c2:Nat) (K:List Ev) (last:Bool) (hlc:l.length≤c) (hkc:K.length≤c2) (w:World) (hK:Rd w w.heap.size 6 A2 K.length (bg K)) (h:Rd w w.heap.size 6 A l.length (bg l)) (hb:l.length*48≤reachBytes) (hbK:(K.length+2001)*48≤reachBytes):
    Calls Tryz.prog 160 #[.agg #[iV ro,iV ep,iV fr,iV tg,iV rd,.slice A l.length c],iV e,iV at_,.slice A2 K.length c2,.bool last] w (j5 w (cB ⟨ro,ep,fr,tg,rd,l⟩ e at_ K last)):=by
 have S:=((St.start w).bH hK).bH h;have hb2:=hb;unfold reachBytes at hb2;refine fE 101 Tryz.func160 ?_;refine cw [0,1,2,3,4] ?_;iterate 2 refine zQ ?_
 refine gD S ?_;intro b1 w2 S3;refine eU S3 dK ?_;intro b4 w5 S6;iterate 7 refine zQ ?_
 refine cab lG S6 (cK ro ep fr tg rd A c l _ (St.rd 2 S6 rfl) (by omega)) ?_;intro w7 S8;iterate 7 refine zQ ?_
 by_cases h10:au ⟨ro,ep,fr,tg,rd,l⟩=0
 ·have hsh:=(dJ h10).1;unfold bn at hsh;have hln:=dY (dJ h10).2;dsimp only at hsh hln;iterate 9 refine zQ ?_
  by_cases h11:ro=4
  ·iterate 10 refine zQ ?_
   by_cases h12:ep=e
   ·iterate 8 refine zQ ?_
    by_cases iQ:at_<0
    ·iterate 14 refine zQ ?_
     refine vv gB ?_;refine sa 0 S8 aC ?_;intro FT gH;iterate 7 refine zQ ?_
     have jR:=gH.aR [3,2,1,0];rw [show cB ⟨ro,ep,fr,tg,rd,l⟩ e at_ K last=(bD,2) from by unfold cB;(try dsimp only);exact jO];exact ⟨none,0,Nat.zero_le _,rfl,aJ jR⟩
    iterate 6 refine zQ ?_
    by_cases kF:((l.length:Nat):Int)<at_
    ·iterate 8 refine zQ ?_
     refine vv gB ?_;refine sa 0 S8 aC ?_;intro L8 lg;iterate 7 refine zQ ?_
     have kr:=lg.aR [3,2,1,0];rw [show cB ⟨ro,ep,fr,tg,rd,l⟩ e at_ K last=(bD,2) from by unfold cB;(try dsimp only);exact jO];exact ⟨none,0,Nat.zero_le _,rfl,aJ kr⟩
    iterate 10 refine zQ ?_
    obtain rfl:ro=4:=by omega
    obtain rfl:tg=0:=by omega
    obtain rfl:rd=0:=by omega
    obtain rfl:e=ep:=by omega
    clear hsh;have hbL:(l.length+K.length+1)*48≤reachBytes:=Nat.le_trans (Nat.mul_le_mul_right 48 (by omega)) hbK;have hb3:=hbL;unfold reachBytes at hb3;obtain ⟨k,rfl⟩: ∃ k:Nat,at_=k:=⟨at_.toNat,by omega⟩;obtain ⟨d,hd⟩: ∃ d,l.length=k+d:=⟨l.length-k,by omega⟩;obtain ⟨p,hp⟩: ∃ p,min d K.length=p:=⟨_,rfl⟩;have hqm:=Lib.hid (afc (l:=l) (K:=K) hd hp);iterate 5 refine zQ ?_
    refine vv (v:=iV ((d:Nat):Int)) ysu ?_;iterate 2 refine zQ ?_
    refine vv (v:=iV ((p:Nat):Int)) (rW (vs:=[iV ((d:Nat):Int),iV ((K.length:Nat):Int)]) rfl ⟨rfl,rfl,trivial⟩ fun _=>by rw [Qj,hp]) ?_;iterate 4 refine zQ ?_
    obtain ⟨A21,au4,au5,aCQ⟩:=Cx (P:=Tryz.prog) (t:=40) (enc:=Ev.cells) (s:=6) (fun _=>rfl) (A:=A) (b:=l) (n:=l.length) (c:=c) (lo:=(some (iV ((k:Nat):Int)))) (hi:=(some (iV ((k+p:Nat):Int)))) (mx:=(some (iV ((k+p:Nat):Int)))) (l:=k) (k:=k+p) (q:=k+p) (m:=p) (c':=p) Tryz.underlying40 jT (Za k (k+p) (k+p) rfl rfl rfl (by omega) (by omega) (by omega)) (by omega) (by omega) (by omega) (by omega) (by omega);have iX:=S8.bH (au5 _ _ (S8.all 2 _ rfl));obtain ⟨WS,au6,au7,aCR⟩:=Cx (P:=Tryz.prog) (t:=40) (enc:=Ev.cells) (s:=6) (fun _=>rfl) (A:=A2) (b:=K) (n:=K.length) (c:=c2) (lo:=none) (hi:=(some (iV ((p:Nat):Int)))) (mx:=(some (iV ((p:Nat):Int)))) (l:=0) (k:=p) (q:=p) (m:=p) (c':=p) Tryz.underlying40 jT (af3 p p rfl rfl (by omega) (by omega)) (by omega) (by omega) (by omega) (by omega) (by omega);have tF:=iX.bH (au7 _ _ (iX.all 4 _ rfl));have mF:=tF;rw [List.drop_zero] at mF;refine zQ ?_;refine eH mF mixed (by kernel_rfl) ?_;iterate 5 refine zQ ?_
    refine uv (v:=iV ((k+p:Nat):Int)) (fun _ _=>jv) ?_;iterate 2 refine zQ ?_
    refine uv (v:=iV ((k+p:Nat):Int)) (fun _ _=>jv) ?_;refine uv (v:= .slice A21 p p) (fun _ _=>(jq rfl rfl (iI rfl) (iI rfl) (iI rfl) (au4 _))) ?_;iterate 3 refine zQ ?_
    refine uv (v:= .slice WS p p) (fun _ _=>(jq rfl rfl mD (iI rfl) (iI rfl) (au6 _))) ?_;have HE:=fun (w:World) h h1=>Mt A21 WS p p p ((l.drop k).take p) (K.take p) w h h1 (by rw [List.length_take,List.length_drop];omega) (by rw [List.length_take];omega) (by omega)
    by_cases hq:(l.drop k).take p=K.take p
    ·rw [decide_eq_true hq] at HE;refine yu (v:= .bool true) (wn rfl) rfl rfl (fun _=>(lM (vs:=[.slice A21 p p,.slice WS p p]) rfl agi ⟨rfl,rfl,trivial⟩)) (fun _ Ri=>(HE _ (St.rd 1 Ri rfl) (St.rd 0 Ri rfl)).mono fun _ _ h=>⟨h.1,Ri.on h.2⟩) ?_;clear HE;refine zQ ?_;refine fC fun UE sD=>?_
     iterate 4 refine zQ ?_
     have hpd:=aa6 (K:=K) hp;obtain ⟨UQ,au8,au9,aCS⟩:=Cx (P:=Tryz.prog) (t:=40) (enc:=Ev.cells) (s:=6) (fun _=>rfl) (A:=A2) (b:=K) (n:=K.length) (c:=c2) (lo:=(some (iV ((p:Nat):Int)))) (hi:=none) (mx:=none) (l:=p) (k:=K.length) (q:=c2) (m:=(K.drop d).length) (c':=c2-p) Tryz.underlying40 jT (ab0 p rfl (by omega)) (by omega) (by omega) (by omega) (by rw [List.length_drop];omega) (by omega);have jw:=sD.bH (au9 _ _ (sD.all 5 _ rfl));have xk:=jw;rw [hpd,List.take_length] at xk;have hlk:(l++(K.drop d)).length=l.length+(K.length-d):=by simp
     have hw2:((l++(K.drop d)).length+([bU]:List Ev).length)*48≤reachBytes:=by rw [hlk];exact Nat.le_trans (Nat.mul_le_mul_right 48 (by simp only [List.length_cons,List.length_nil];omega)) hbL
     refine jU (X:=Nat×(Option Addr)×Nat) (fun xv=>[(1,iV e),(2,iV ((k:Nat):Int)),(3,.slice A2 K.length c2),(4,.bool last),(5,pV b1 0),(10,pV b4 0),(11,iV 0),(14,pV xv.1 0)]) (fun xv wr=>St w.heap.size w wr [.blk xv.1 #[iV 4,iV e,iV fr,iV 0,iV 0,.slice xv.2.1 ((l++(K.drop d)).length) xv.2.2] 42,.own 75 6 (.slice xv.2.1 ((l++(K.drop d)).length) xv.2.2) ((l++(K.drop d)).length) ((l++(K.drop d)).flatMap Ev.cells),.rd 6 UQ ((K.drop d).length) ((K.drop d).flatMap Ev.cells),.rd 6 WS p ((K.take p).flatMap Ev.cells),.rd 6 A21 p (((l.drop k).take p).flatMap Ev.cells),.blk b4 #[iV 0,iV 0,iV 0,iV 0,iV 0,.slice none 0 0] 42,.blk b1 #[iV 4,iV e,iV fr,iV 0,iV 0,.slice A l.length c] 42,.rd 6 A l.length ((l).flatMap Ev.cells),.rd 6 A2 K.length ((K).flatMap Ev.cells)]) ?_ ?_
     ·have yT:=xk.drew;refine fG 7 6 yT [] ?_;iterate 3 refine iP ?_
      refine gk (v:= .slice UQ ((K.drop d).length) (c2-p)) 3 rfl yT (fun _ _=>(jq rfl rfl (iI rfl) mD mD (au8 _))) ?_;refine Y9 (m:=2) (r:=4) (s:=5) (by kernel_rfl) ?_ ?_
      ·refine Uh (i:=4) rfl rfl (wn rfl) rfl rfl (lM (vs:=[.agg #[iV 4,iV e,iV fr,iV 0,iV 0,.slice A l.length c],.slice UQ ((K.drop d).length) (c2-p)]) rfl pW ⟨rfl,rfl,trivial⟩) (pX 4 e fr 0 0 A c l UQ (c2-p) (K.drop d) _ (St.rd 5 yT rfl) (St.rd 0 yT rfl) (by rw [List.length_drop];unfold reachBytes;omega)) ?_;rintro _ w63 ⟨A61,c62,rfl,T65⟩;refine ⟨_,rfl,?_⟩;have S64:=yT.ext T65 rfl;refine iP ?_;refine gW (m:=1) (r:=5) (by kernel_rfl) ?_;refine kS (i:=5) rfl rfl (V:=fun b=>pV b 0) (row:= #[iV 0,iV 0,iV 0,iV 0,iV 0,.slice none 0 0]) (t:=42) S64 (wn rfl) rfl rfl (iN rfl (Tryz.zeroValue42 _) rfl) ?_;intro b66 w67 uz;refine iP ?_;refine eF (by kernel_rfl) rfl rfl rfl ?_;refine sa 0 uz aC ?_;intro ZN lu;refine zQ ?_;refine je ?_;refine bJ (b66,A61,c62) ?_ ⟨rfl,rfl,rfl,rfl,rfl,rfl,rfl,rfl,trivial⟩;exact lu
      refine kS (i:=5) rfl rfl (V:=fun b=>pV b 0) (row:= #[iV 0,iV 0,iV 0,iV 0,iV 0,.slice none 0 0]) (t:=42) yT (wn rfl) rfl rfl (iN rfl (Tryz.zeroValue42 _) rfl) ?_;intro b71 VZ qL;refine iP ?_;refine gW (m:=1) (r:=4) (by kernel_rfl) ?_;refine Uh (i:=4) rfl rfl (wn rfl) rfl rfl (lM (vs:=[.agg #[iV 4,iV e,iV fr,iV 0,iV 0,.slice A l.length c],.slice UQ ((K.drop d).length) (c2-p)]) rfl pW ⟨rfl,rfl,trivial⟩) (pX 4 e fr 0 0 A c l UQ (c2-p) (K.drop d) _ (St.rd 6 qL rfl) (St.rd 1 qL rfl) (by rw [List.length_drop];unfold reachBytes;omega)) ?_;rintro _ w76 ⟨A74,c75,rfl,T78⟩;refine ⟨_,rfl,?_⟩;have CB:=qL.ext T78 rfl;refine iP ?_;refine eF (by kernel_rfl) rfl rfl rfl ?_;refine sa 1 CB aC ?_;intro w79 xG;refine zQ ?_;refine je ?_;have pF:St w.heap.size w w79 [_,_,_,_,_,_,_,_,_]:=xG.re [1,0,2,3,4,5,6,7,8] (by decide);refine bJ (b71,A74,c75) ?_ ⟨rfl,rfl,rfl,rfl,rfl,rfl,rfl,rfl,trivial⟩;exact pF
     rintro ⟨b82,A83,c84⟩ Qu uh
     try dsimp only at uh
     refine bq (l':=[(1,iV e),(2,iV ((k:Nat):Int)),(3,.slice A2 K.length c2),(4,.bool last),(5,pV b1 0),(10,pV b4 0),(11,iV 0),(14,pV b82 0)]) ⟨rfl,rfl,rfl,rfl,rfl,rfl,rfl,rfl,trivial⟩ (aW (BH (aW (aO (vm ?_)))));refine zQ ?_
     cases anj:(last)
     ·iterate 27 refine zQ ?_
      refine cab lG uh (cK 4 e fr 0 0 A83 c84 (l++(K.drop d)) _ (St.ord 1 uh rfl) (by simp only [List.length_append,List.length_cons,List.length_nil,List.length_drop];omega)) ?_;intro w88 FQ;by_cases Dv:au ⟨4,e,fr,0,0,l++(K.drop d)⟩=0
      ·iterate 9 refine zQ ?_
       refine sa 5 FQ aC ?_;intro w92 yR;iterate 5 refine zQ ?_
       rw [CQ (b:=⟨4,e,fr,0,0,l⟩) (k:=k) h10 rfl rfl (by dsimp only;omega)];dsimp only;rw [show l.length-k=d from by omega];rw [if_neg (fun h=>h (hqm.out.2 hq))];rw [if_neg (by simp)];rw [Ob];dsimp only;rw [if_neg (fun h=>h Dv)];have CF:=yR.aR [8,7,6,5,4,3,2,0];have hcp:=(cO (CF.own 0 rfl)).1;have Ef:=CF.aZ 0 rfl;exact ⟨A83,c84,kR,rfl,Ef⟩
      iterate 6 refine zQ ?_
      refine vv gB ?_;refine sa 5 FQ aC ?_;intro Qv uP;iterate 6 refine zQ ?_
      rw [CQ (b:=⟨4,e,fr,0,0,l⟩) (k:=k) h10 rfl rfl (by dsimp only;omega)];dsimp only;rw [show l.length-k=d from by omega];rw [if_neg (fun h=>h (hqm.out.2 hq))];rw [if_neg (by simp)];rw [Ob];dsimp only;rw [if_pos Dv];have Aw:=uP.aR [8,7,6,5,4,3,2,1,0];exact ⟨none,0,Nat.zero_le _,rfl,aJ Aw⟩
     iterate 3 refine zQ ?_
     refine vg (v:=iV ((k+K.length:Nat):Int)) jv ?_;iterate 3 refine zQ ?_
     by_cases h99:((k+K.length:Nat):Int)< ((l.length:Nat):Int)
     ·iterate 8 refine zQ ?_
      refine vv gB ?_;refine sa 5 uh aC ?_;intro V5 sG;iterate 7 refine zQ ?_
      rw [CQ (b:=⟨4,e,fr,0,0,l⟩) (k:=k) h10 rfl rfl (by dsimp only;omega)];dsimp only;rw [show l.length-k=d from by omega];rw [if_neg (fun h=>h (hqm.out.2 hq))];rw [if_pos ⟨rfl,by omega⟩];have pG:=sG.aR [8,7,6,5,4,3,2,1,0];exact ⟨none,0,Nat.zero_le _,rfl,aJ pG⟩
     iterate 17 refine zQ ?_
     refine vv (v:= .agg #[iV 1,iV e,iV 0,iV 0,iV 0,.slice A83 ((l++(K.drop d)).length) c84]) gZ ?_;refine vv (v:= .agg #[iV 4,iV 0,iV 0,iV 0,iV 0,iV 0]) gZ ?_;refine Zo uh ?_;intro ava ank lD;refine dO pW (pX 1 e 0 0 0 A83 c84 (l++(K.drop d)) (aD ava 0) 1 [bU] _ (St.ord 2 lD rfl) (St.iG (xs:=bg [bU]) 0 lD rfl rfl rfl) hw2) ?_;rintro _ ahq ⟨Fg,c107,rfl,avb⟩;refine ⟨_,rfl,?_⟩;have BN:=lD.ext avb rfl;refine sa 2 BN aC ?_;intro Q7 sH;iterate 7 refine zQ ?_
     refine cab lG sH (cK 1 e 0 0 0 Fg c107 (l++(K.drop d)++[bU]) _ (St.ord 0 sH rfl) (by simp only [List.length_append,List.length_cons,List.length_nil,List.length_drop];omega)) ?_;intro ab9 yX;by_cases h116:au ⟨1,e,0,0,0,l++(K.drop d)++[bU]⟩=0
     ·iterate 9 refine zQ ?_
      refine sa 7 yX aC ?_;intro W9 uI;iterate 5 refine zQ ?_
      rw [CQ (b:=⟨4,e,fr,0,0,l⟩) (k:=k) h10 rfl rfl (by dsimp only;omega)];dsimp only;rw [show l.length-k=d from by omega];rw [if_neg (fun h=>h (hqm.out.2 hq))];rw [if_neg (by simp;omega)];rw [Oa];dsimp only;rw [if_neg (fun h=>h h116)];have kX:=uI.aR [10,9,8,7,6,5,4,3,2,1];have hcp:=(cO (kX.own 0 rfl)).1;have oM:=kX.aZ 0 rfl;exact ⟨Fg,c107,kR,rfl,oM⟩
     iterate 6 refine zQ ?_
     refine vv gB ?_;refine sa 7 yX aC ?_;intro Xc zZ;iterate 6 refine zQ ?_
     rw [CQ (b:=⟨4,e,fr,0,0,l⟩) (k:=k) h10 rfl rfl (by dsimp only;omega)];dsimp only;rw [show l.length-k=d from by omega];rw [if_neg (fun h=>h (hqm.out.2 hq))];rw [if_neg (by simp;omega)];rw [Oa];dsimp only;rw [if_pos h116];have pz:=zZ.aR [10,9,8,7,6,5,4,3,2,1,0];exact ⟨none,0,Nat.zero_le _,rfl,aJ pz⟩
    rw [decide_eq_false hq] at HE;refine yu (v:= .bool false) (wn rfl) rfl rfl (fun _=>(lM (vs:=[.slice A21 p p,.slice WS p p]) rfl agi ⟨rfl,rfl,trivial⟩)) (fun _ YM=>(HE _ (St.rd 1 YM rfl) (St.rd 0 YM rfl)).mono fun _ _ h=>⟨h.1,YM.on h.2⟩) ?_;clear HE;refine zQ ?_;refine fC fun ahS Ig=>?_
    iterate 4 refine zQ ?_
    refine vv gB ?_;refine sa 2 Ig aC ?_;intro avc rD;iterate 6 refine zQ ?_
    rw [CQ (b:=⟨4,e,fr,0,0,l⟩) (k:=k) h10 rfl rfl (by dsimp only;omega)];dsimp only;rw [show l.length-k=d from by omega];rw [if_pos (fun h=>hq (hqm.out.1 h))];have Xa:=rD.aR [5,4,3,2,1,0];exact ⟨none,0,Nat.zero_le _,rfl,aJ Xa⟩
   iterate 7 refine zQ ?_
   refine vv gB ?_;refine sa 0 S8 aC ?_;intro ab6 qE;iterate 7 refine zQ ?_
   have M6:=qE.aR [3,2,1,0];rw [show cB ⟨ro,ep,fr,tg,rd,l⟩ e at_ K last=(bD,15) from by unfold cB;(try dsimp only);exact jO];exact ⟨none,0,Nat.zero_le _,rfl,aJ M6⟩
  iterate 7 refine zQ ?_
  refine vv gB ?_;refine sa 0 S8 aC ?_;intro amN xO;iterate 7 refine zQ ?_
  have yS:=xO.aR [3,2,1,0];rw [show cB ⟨ro,ep,fr,tg,rd,l⟩ e at_ K last=(bD,7) from by unfold cB;(try dsimp only);exact jO];exact ⟨none,0,Nat.zero_le _,rfl,aJ yS⟩
 iterate 7 refine zQ ?_
 refine vv gB ?_;refine zQ ?_;refine sa 0 S8 aC ?_;intro ahm qF;iterate 7 refine zQ ?_
 have Dz:=qF.aR [3,2,1,0];rw [show cB ⟨ro,ep,fr,tg,rd,l⟩ e at_ K last=(bD,au ⟨ro,ep,fr,tg,rd,l⟩) from by unfold cB;(try dsimp only);exact jO];exact ⟨none,0,Nat.zero_le _,rfl,aJ Dz⟩
noncomputable def Aa (b:bO) (e:Ev):bO×Int:=if au ⟨b.role,b.ep,b.fr,b.tg,b.rd,b.evs++[e]⟩≠0 then (bD,3) else (⟨b.role,b.ep,b.fr,b.tg,b.rd,b.evs++[e]⟩,0)
def Rl (b:bO) (pe:Int):bO×Int:=(⟨3,b.ep,b.fr,pe,b.rd,b.evs⟩,0)
noncomputable def jo (b:bO) (r:dx):bO×Int:=
 if r.kind=1 then iB b r.epoch else if r.kind=4 then dn b r.epoch r.peer
 else if ¬ (b.role=(if r.kind=2∨r.kind=3 then 1 else if r.kind=7 then 3 else 4)∧b.ep=r.epoch) then (bD,3)
 else if r.kind=3 then Rl b r.peer else if r.kind=6 then cB b r.epoch b.evs.length [] true else if r.kind=7 then fB b (r.epoch+1) else Aa b r.ev
noncomputable def dN (b:bO) (r:dx):bO×Int:=
 if au b≠0 then (bD,au b) else if aP r≠0 then (bD,aP r)
 else if b.role=2∨(r.kind≠3∧r.kind≠4∧r.peer≠0) then (bD,3) else if (jo b r).2≠0 then (bD,3) else ((jo b r).1,0)
theorem uK (ro ep fr tg rd:Int) (A:Option Addr) (c:Nat) (l:List Ev) (kd qu e pe:Int) (x:Ev) (w:World) (h:Rd w w.heap.size 6 A l.length (bg l)) (hb:l.length*48≤reachBytes):
    Calls Tryz.prog 167 #[.agg #[iV ro,iV ep,iV fr,iV tg,iV rd,.slice A l.length c],.agg #[iV kd,iV qu,iV e,iV pe,iV x.kind,iV x.producer,iV x.id,iV x.body,iV x.aL,iV x.hno]] w (j5 w (iB ⟨ro,ep,fr,tg,rd,l⟩ e)):=by
 have S:=(St.start w).bH h;have hb2:=hb;unfold reachBytes at hb2;obtain ⟨R,hR⟩: ∃ R,iB ⟨ro,ep,fr,tg,rd,l⟩ e=R:=⟨_,rfl⟩;rw [hR];refine fE 12 Tryz.func167 ?_;refine cw [0,1] ?_;iterate 2 refine zQ ?_
 refine gD S ?_;intro b1 w2 S3;refine gD S3 ?_;intro b4 w5 S6;refine eU S6 dK ?_;intro b7 w8 S9;iterate 8 refine zQ ?_
 refine dO alR ((hR▸Hf ro ep fr tg rd A c l e _ (St.rd 3 S9 rfl) hb)) ?_;rintro _ CG ⟨zL,c11,YN,rfl,T15⟩;refine ⟨_,rfl,?_⟩;have jH:=S9.ext T15 rfl;iterate 2 refine zQ ?_
 refine sa 1 jH aC ?_;intro w16 kT;iterate 5 refine zQ ?_
 have iD:=kT.aR [4,3,2,1];exact ⟨zL,c11,by assumption,rfl,iD⟩
theorem uL (ro ep fr tg rd:Int) (A:Option Addr) (c:Nat) (l:List Ev) (kd qu e pe:Int) (x:Ev) (w:World) (h:Rd w w.heap.size 6 A l.length (bg l)) (hb:l.length*48≤reachBytes):
    Calls Tryz.prog 171 #[.agg #[iV ro,iV ep,iV fr,iV tg,iV rd,.slice A l.length c],.agg #[iV kd,iV qu,iV e,iV pe,iV x.kind,iV x.producer,iV x.id,iV x.body,iV x.aL,iV x.hno]] w (j5 w (dn ⟨ro,ep,fr,tg,rd,l⟩ e pe)):=by
 have S:=(St.start w).bH h;have hb2:=hb;unfold reachBytes at hb2;obtain ⟨R,hR⟩: ∃ R,dn ⟨ro,ep,fr,tg,rd,l⟩ e pe=R:=⟨_,rfl⟩;rw [hR];refine fE 14 Tryz.func171 ?_;refine cw [0,1] ?_;iterate 2 refine zQ ?_
 refine gD S ?_;intro b1 w2 S3;refine gD S3 ?_;intro b4 w5 S6;refine eU S6 dK ?_;intro b7 w8 S9;iterate 10 refine zQ ?_
 refine dO YD ((hR▸Eo ro ep fr tg rd A c l e pe _ (St.rd 3 S9 rfl) hb)) ?_;rintro _ CG ⟨zL,c11,YN,rfl,T15⟩;refine ⟨_,rfl,?_⟩;have jH:=S9.ext T15 rfl;iterate 2 refine zQ ?_
 refine sa 1 jH aC ?_;intro w16 kT;iterate 5 refine zQ ?_
 have iD:=kT.aR [4,3,2,1];exact ⟨zL,c11,by assumption,rfl,iD⟩
theorem PS (ro ep fr tg rd:Int) (A:Option Addr) (c:Nat) (l:List Ev) (kd qu e pe:Int) (x:Ev) (hlc:l.length≤c) (w:World) (h:Rd w w.heap.size 6 A l.length (bg l)) (hb:l.length*48≤reachBytes):
    Calls Tryz.prog 172 #[.agg #[iV ro,iV ep,iV fr,iV tg,iV rd,.slice A l.length c],.agg #[iV kd,iV qu,iV e,iV pe,iV x.kind,iV x.producer,iV x.id,iV x.body,iV x.aL,iV x.hno]] w (j5 w (cB ⟨ro,ep,fr,tg,rd,l⟩ e ((l.length:Nat):Int) [] true)):=by
 have S:=(St.start w).bH h;have hb2:=hb;unfold reachBytes at hb2;obtain ⟨R,hR⟩: ∃ R,cB ⟨ro,ep,fr,tg,rd,l⟩ e ((l.length:Nat):Int) [] true=R:=⟨_,rfl⟩;rw [hR];refine fE 15 Tryz.func172 ?_;refine cw [0,1] ?_;iterate 2 refine zQ ?_
 refine gD S ?_;intro b1 w2 S3;refine gD S3 ?_;intro b4 w5 S6;refine eU S6 dK ?_;intro b7 w8 S9;iterate 11 refine zQ ?_
 refine dO agf ((hR▸CS ro ep fr tg rd A c l e ((l.length:Nat):Int) none 0 [] true hlc (Nat.le_refl 0) _ Rd.none_ (St.rd 3 S9 rfl) hb (by decide))) ?_;rintro _ CG ⟨zL,c11,YN,rfl,T15⟩;refine ⟨_,rfl,?_⟩;have jH:=S9.ext T15 rfl;iterate 2 refine zQ ?_
 refine sa 1 jH aC ?_;intro w16 kT;iterate 5 refine zQ ?_
 have iD:=kT.aR [4,3,2,1];exact ⟨zL,c11,by assumption,rfl,iD⟩
theorem PU (ro ep fr tg rd:Int) (A:Option Addr) (c:Nat) (l:List Ev) (kd qu e pe:Int) (x:Ev) (he:0≤e∧e≤1048576) (w:World) (h:Rd w w.heap.size 6 A l.length (bg l)) (hb:l.length*48≤reachBytes):
    Calls Tryz.prog 173 #[.agg #[iV ro,iV ep,iV fr,iV tg,iV rd,.slice A l.length c],.agg #[iV kd,iV qu,iV e,iV pe,iV x.kind,iV x.producer,iV x.id,iV x.body,iV x.aL,iV x.hno]] w (j5 w (fB ⟨ro,ep,fr,tg,rd,l⟩ (e+1))):=by
 have S:=(St.start w).bH h;have hb2:=hb;unfold reachBytes at hb2;obtain ⟨R,hR⟩: ∃ R,fB ⟨ro,ep,fr,tg,rd,l⟩ (e+1)=R:=⟨_,rfl⟩;rw [hR];refine fE 13 Tryz.func173 ?_;refine cw [0,1] ?_;iterate 2 refine zQ ?_
 refine gD S ?_;intro b1 w2 S3;refine gD S3 ?_;intro b4 w5 S6;refine eU S6 dK ?_;intro b7 w8 S9;iterate 8 refine zQ ?_
 refine vv (v:=iV (e+1)) jv ?_;refine dO agh ((hR▸CP ro ep fr tg rd A c l (e+1) _ (St.rd 3 S9 rfl) hb)) ?_;rintro _ CG ⟨zL,c11,YN,rfl,T15⟩;refine ⟨_,rfl,?_⟩;have jH:=S9.ext T15 rfl;iterate 2 refine zQ ?_
 refine sa 1 jH aC ?_;intro w16 kT;iterate 5 refine zQ ?_
 have iD:=kT.aR [4,3,2,1];exact ⟨zL,c11,by assumption,rfl,iD⟩
theorem Tj (ro ep fr tg rd:Int) (A:Option Addr) (c:Nat) (l:List Ev) (kd qu e pe:Int) (x:Ev) (hl2:l.length≤2000) (w:World) (h:Rd w w.heap.size 6 A l.length (bg l)) (hb:l.length*48≤reachBytes):
    Calls Tryz.prog 169 #[.agg #[iV ro,iV ep,iV fr,iV tg,iV rd,.slice A l.length c],.agg #[iV kd,iV qu,iV e,iV pe,iV x.kind,iV x.producer,iV x.id,iV x.body,iV x.aL,iV x.hno]] w (j5 w (Aa ⟨ro,ep,fr,tg,rd,l⟩ x)):=by
 have S:=(St.start w).bH h;have hb2:=hb;unfold reachBytes at hb2;refine fE 19 Tryz.func169 ?_;refine cw [0,1] ?_;iterate 2 refine zQ ?_
 refine gD S ?_;intro b1 w2 S3;refine gD S3 ?_;intro b4 w5 S6;refine eU S6 dK ?_;intro b7 w8 S9;iterate 3 refine zQ ?_
 have jE:=S9.nil 75 6;refine jU (X:=Nat×(Option Addr)×Nat) (fun xv=>[(2,pV b1 0),(4,pV b7 0),(5,iV 0)]) (fun xv wr=>St w.heap.size w wr [.blk xv.1 #[iV x.kind,iV x.producer,iV x.id,iV x.body,iV x.aL,iV x.hno] 75,.own 75 6 (.slice xv.2.1 ((0+l.length)+1) xv.2.2) ((0+l.length)+1) ((l++[x]).flatMap Ev.cells),.blk b7 #[iV 0,iV 0,iV 0,iV 0,iV 0,.slice none 0 0] 42,.blk b4 #[iV kd,iV qu,iV e,iV pe,iV x.kind,iV x.producer,iV x.id,iV x.body,iV x.aL,iV x.hno] 205,.blk b1 #[iV ro,iV ep,iV fr,iV tg,iV rd,.slice xv.2.1 ((0+l.length)+1) xv.2.2] 42,.rd 6 A l.length ((l).flatMap Ev.cells)]) ?_ ?_
 ·have jQ:=jE.drew;refine fG 9 7 jQ [0] ?_;iterate 3 refine iP ?_
  refine gk (v:= .agg #[iV x.kind,iV x.producer,iV x.id,iV x.body,iV x.aL,iV x.hno]) 4 rfl (St.del 0 jQ) (fun _ ahj=>(aj rfl rfl (aG (cs:=[iV x.kind,iV x.producer,iV x.id,iV x.body,iV x.aL,iV x.hno]) Tryz.underlying75 rfl jT rfl (St.rg 1 ahj rfl (mR (x:=4) (m:=6) rfl))))) ?_;refine Y9 (m:=4) (r:=2) (s:=5) (by kernel_rfl) ?_ ?_
  ·refine jW (i:=2) rfl rfl (news:=(l).flatMap Ev.cells) (xs':=(l).flatMap Ev.cells) 0 jQ (wn rfl) rfl rfl rfl rfl rfl rfl (St.rd 4 jQ rfl) Tryz.underlying40 lN rfl (by decide) (dF _) (by simp only [maxLen];omega) (by omega) (rfl) ?_;intro A16 c17 L8 avd ave lg;refine iP ?_;refine gW (m:=3) (r:=5) (by kernel_rfl) ?_;refine kS (i:=5) rfl rfl (V:=fun b=> .slice (aD b 0) 1 1) (row:= #[iV x.kind,iV x.producer,iV x.id,iV x.body,iV x.aL,iV x.hno]) (t:=75) lg (wn rfl) rfl rfl (aK (vs:=[(0,.agg #[iV x.kind,iV x.producer,iV x.id,iV x.body,iV x.aL,iV x.hno])]) rfl ⟨rfl,rfl,trivial⟩ (by kernel_rfl)) ?_;intro NR JZ jB;refine iP ?_;refine gW (m:=2) (r:=6) (by kernel_rfl) ?_;refine jW (i:=6) rfl rfl (news:=[iV x.kind,iV x.producer,iV x.id,iV x.body,iV x.aL,iV x.hno]) (xs':=(l++[x]).flatMap Ev.cells) 1 jB (wn rfl) rfl rfl rfl rfl rfl rfl (St.iG (xs:=[iV x.kind,iV x.producer,iV x.id,iV x.body,iV x.aL,iV x.hno]) 0 jB rfl rfl rfl) Tryz.underlying40 lN rfl (by decide) (bZ rfl) (by simp only [maxLen];omega) (by omega) (jZ (enc:=Ev.cells) rfl rfl) ?_;intro A25 c26 JV hc29 aCT qM;refine iP ?_;refine eF (by kernel_rfl) rfl rfl rfl ?_;refine zQ ?_;refine lQ 4 qM qV ?_;intro Zx pE;refine zQ ?_;refine je ?_;refine bJ (NR,A25,c26) ?_ ⟨rfl,rfl,rfl,trivial⟩;exact pE
  refine kS (i:=5) rfl rfl (V:=fun b=> .slice (aD b 0) 1 1) (row:= #[iV x.kind,iV x.producer,iV x.id,iV x.body,iV x.aL,iV x.hno]) (t:=75) jQ (wn rfl) rfl rfl (aK (vs:=[(0,.agg #[iV x.kind,iV x.producer,iV x.id,iV x.body,iV x.aL,iV x.hno])]) rfl ⟨rfl,rfl,trivial⟩ (by kernel_rfl)) ?_;intro b33 WX kC;refine iP ?_;refine gW (m:=3) (r:=2) (by kernel_rfl) ?_;refine jW (i:=2) rfl rfl (news:=(l).flatMap Ev.cells) (xs':=(l).flatMap Ev.cells) 1 kC (wn rfl) rfl rfl rfl rfl rfl rfl (St.rd 5 kC rfl) Tryz.underlying40 lN rfl (by decide) (dF _) (by simp only [maxLen];omega) (by omega) (rfl) ?_;intro A36 c37 Zy aCU aCV yV;refine iP ?_;refine gW (m:=2) (r:=6) (by kernel_rfl) ?_;refine jW (i:=6) rfl rfl (news:=[iV x.kind,iV x.producer,iV x.id,iV x.body,iV x.aL,iV x.hno]) (xs':=(l++[x]).flatMap Ev.cells) 1 yV (wn rfl) rfl rfl rfl rfl rfl rfl (St.iG (xs:=[iV x.kind,iV x.producer,iV x.id,iV x.body,iV x.aL,iV x.hno]) 0 yV rfl rfl rfl) Tryz.underlying40 lN rfl (by decide) (bZ rfl) (by simp only [maxLen];omega) (by omega) (jZ (enc:=Ev.cells) rfl rfl) ?_;intro A42 c43 L9 aCW aCX mW;refine iP ?_;refine eF (by kernel_rfl) rfl rfl rfl ?_;refine zQ ?_;refine lQ 4 mW qV ?_;intro UE sD;refine zQ ?_;refine je ?_;refine bJ (b33,A42,c43) ?_ ⟨rfl,rfl,rfl,trivial⟩;exact sD
 rintro ⟨b50,A51,c52⟩ Wu jw
 try dsimp only at jw
 refine bq (l':=[(2,pV b1 0),(4,pV b7 0),(5,iV 0)]) ⟨rfl,rfl,rfl,trivial⟩ (aW (aW (aO (vv (aj rfl rfl (pR 4 jw rfl Tryz.underlying42 rfl aC rfl)) ?_))));have hal:(l++[x]).length=(0+l.length)+1:=by simp only [List.length_append,List.length_cons,List.length_nil,List.length_drop,Nat.zero_add]
 have anm:=fun (w:World) (h:Rd w w.heap.size 6 A51 ((l++[x]).length) (bg (l++[x])))=>cK ro ep fr tg rd A51 c52 (l++[x]) w h (by omega)
 rw [hal] at anm;refine dO lG (anm _ (St.ord 1 jw rfl)) ?_;rintro _ w56 ⟨rfl,ano⟩;refine ⟨_,rfl,?_⟩;have sF:=jw.on ano;clear ano jw;by_cases h59:au ⟨ro,ep,fr,tg,rd,l++[x]⟩=0
 ·have hsh:=(dJ h59).1;unfold bn at hsh;have hln:=dY (dJ h59).2;dsimp only at hsh hln;iterate 9 refine zQ ?_
  refine sa 2 sF aC ?_;intro Qx Au;iterate 5 refine zQ ?_
  have FV:=Au.aR [5,4,3,2,0];have hcp:=(cO (FV.own 0 rfl)).1;have uO:=FV.aZ 0 rfl;rw [show Aa ⟨ro,ep,fr,tg,rd,l⟩ x=(⟨ro,ep,fr,tg,rd,l++[x]⟩,0) from by unfold Aa;(try dsimp only);exact jO];refine ⟨A51,c52,?_,?_,?_⟩
  · dsimp only;rw [hal];exact hcp
  · dsimp only;rw [hal];rfl
  · dsimp only;rw [hal];exact uO
 iterate 6 refine zQ ?_
 refine vv gB ?_;refine sa 2 sF aC ?_;intro GZ xV;iterate 6 refine zQ ?_
 have Bj:=xV.aR [5,4,3,2,1,0];rw [show Aa ⟨ro,ep,fr,tg,rd,l⟩ x=(⟨0,0,0,0,0,[]⟩,3) from by unfold Aa;(try dsimp only);exact jO];exact ⟨none,0,kR,rfl,aJ Bj⟩
theorem PV (ro ep fr tg rd:Int) (A:Option Addr) (c:Nat) (l:List Ev) (kd qu e pe:Int) (x:Ev) (w:World) (h:Rd w w.heap.size 6 A l.length (bg l)) (hb:l.length*48≤reachBytes):
    Calls Tryz.prog 170 #[.agg #[iV ro,iV ep,iV fr,iV tg,iV rd,.slice A l.length c],.agg #[iV kd,iV qu,iV e,iV pe,iV x.kind,iV x.producer,iV x.id,iV x.body,iV x.aL,iV x.hno]] w fun e w'=>e= .returned (.tuple #[.agg #[iV 3,iV ep,iV fr,iV pe,iV rd,.slice A l.length c],iV 0])∧Below w.heap.size w w':=by
 have S:=(St.start w).bH h;have hb2:=hb;unfold reachBytes at hb2;refine fE 11 Tryz.func170 ?_;refine cw [0,1] ?_;iterate 2 refine zQ ?_
 refine gD S ?_;intro b1 w2 S3;refine gD S3 ?_;intro b4 w5 S6;refine eU S6 dK ?_;intro b7 w8 S9;iterate 4 refine zQ ?_
 have jE:=S9.drew;refine aN 6 jE [2] ?_;iterate 3 refine aF ?_
 refine aS 3 ?_;refine snz (row':= #[iV 3,iV ep,iV fr,iV tg,iV rd,.slice A l.length c]) 3 rfl 2 jE fM ?_;intro FT gH;iterate 2 refine aF ?_
 refine aS 5 ?_;refine snz (row':= #[iV 3,iV ep,iV fr,iV pe,iV rd,.slice A l.length c]) 5 rfl 2 gH fM ?_;intro JR iD;iterate 2 refine aF ?_
 iterate 4 refine zQ ?_
 refine sa 0 iD aC ?_;intro zJ kr;iterate 5 refine zQ ?_
 exact ⟨rfl,kr.low⟩
theorem qm (ro ep fr tg rd:Int) (A:Option Addr) (c:Nat) (l:List Ev) (kd qu e pe:Int) (x:Ev) (z:Int) (b1 b2:Nat) (hl2:l.length≤2000) (w:World) (h:Rd w w.heap.size 6 A l.length (bg l)) (hb:l.length*48≤reachBytes) (h1:Rd w w.heap.size 1 (aD b1 0) 1 [iV z]) (h2:Rd w w.heap.size 1 (aD b2 0) 1 [.func (.func 169) #[] #[]]):
    Calls Tryz.prog 183 #[.agg #[iV ro,iV ep,iV fr,iV tg,iV rd,.slice A l.length c],.agg #[iV kd,iV qu,iV e,iV pe,iV x.kind,iV x.producer,iV x.id,iV x.body,iV x.aL,iV x.hno],pV b1 0,pV b2 0] w (j5 w (if ¬ (ro=z∧ep=e) then (bD,3) else Aa ⟨ro,ep,fr,tg,rd,l⟩ x)):=by
 have S:=(((St.start w).bH h2).bH h1).bH h;have hb2:=hb;unfold reachBytes at hb2;obtain ⟨R,hR⟩: ∃ R,Aa ⟨ro,ep,fr,tg,rd,l⟩ x=R:=⟨_,rfl⟩;rw [hR];refine fE 26 Tryz.func183 ?_;refine cw [0,1,2,3] ?_;iterate 2 refine zQ ?_
 refine gD S ?_;intro b1 w2 S3;refine gD S3 ?_;intro b4 w5 S6;refine eU S6 dK ?_;intro b7 w8 S9;iterate 8 refine zQ ?_
 refine vv (v:=iV z) (aj rfl rfl (aA Tryz.underlying3 rfl (Rd.cl (j:=0) (St.rd 4 S9 rfl) rfl))) ?_;by_cases h10:ro=z
 ·iterate 6 refine zQ ?_
  by_cases h11:ep=e
  ·iterate 9 refine zQ ?_
   refine vv (v:= .func (.func 169) #[] #[]) (aj rfl rfl (aA Tryz.underlying239 rfl (Rd.cl (j:=0) (St.rd 5 S9 rfl) rfl))) ?_;iterate 2 refine zQ ?_
   refine uF apd ((hR▸Tj ro ep fr tg rd A c l kd qu e pe x hl2 _ (St.rd 3 S9 rfl) hb)) ?_;rintro _ FR ⟨Mr,c13,agF,rfl,T17⟩;refine ⟨_,rfl,?_⟩;have jR:=S9.ext T17 rfl;iterate 2 refine zQ ?_
   refine sa 1 jR aC ?_;intro L8 lg;iterate 5 refine zQ ?_
   rw [if_neg (by omega)];have kr:=lg.aR [6,5,4,3,2,1];exact ⟨Mr,c13,by assumption,rfl,kr⟩
  iterate 7 refine zQ ?_
  refine vv gB ?_;refine sa 0 S9 aC ?_;intro Bh ig;iterate 6 refine zQ ?_
  have mE:=ig.aR [5,4,3,2,1,0];rw [if_pos (by omega)];exact ⟨none,0,Nat.zero_le _,rfl,aJ mE⟩
 iterate 13 refine zQ ?_
 refine vv gB ?_;refine sa 0 S9 aC ?_;intro JU iX;iterate 6 refine zQ ?_
 have kD:=iX.aR [5,4,3,2,1,0];rw [if_pos (by omega)];exact ⟨none,0,Nat.zero_le _,rfl,aJ kD⟩
theorem nP (ro ep fr tg rd:Int) (A:Option Addr) (c:Nat) (l:List Ev) (kd qu e pe:Int) (x:Ev) (z:Int) (b1 b2:Nat) (w:World) (h:Rd w w.heap.size 6 A l.length (bg l)) (hb:l.length*48≤reachBytes) (h1:Rd w w.heap.size 1 (aD b1 0) 1 [iV z]) (h2:Rd w w.heap.size 1 (aD b2 0) 1 [.func (.func 170) #[] #[]]):
    Calls Tryz.prog 183 #[.agg #[iV ro,iV ep,iV fr,iV tg,iV rd,.slice A l.length c],.agg #[iV kd,iV qu,iV e,iV pe,iV x.kind,iV x.producer,iV x.id,iV x.body,iV x.aL,iV x.hno],pV b1 0,pV b2 0] w fun e' w'=>(¬ (ro=z∧ep=e)∧e'= .returned (.tuple #[.agg #[iV 0,iV 0,iV 0,iV 0,iV 0,.slice none 0 0],iV 3])∨(ro=z∧ep=e)∧e'= .returned (.tuple #[.agg #[iV 3,iV ep,iV fr,iV pe,iV rd,.slice A l.length c],iV 0]))∧Below w.heap.size w w':=by
 have S:=(((St.start w).bH h2).bH h1).bH h;have hb2:=hb;unfold reachBytes at hb2;refine fE 26 Tryz.func183 ?_;refine cw [0,1,2,3] ?_;iterate 2 refine zQ ?_
 refine gD S ?_;intro b1 w2 S3;refine gD S3 ?_;intro b4 w5 S6;refine eU S6 dK ?_;intro b7 w8 S9;iterate 8 refine zQ ?_
 refine vv (v:=iV z) (aj rfl rfl (aA Tryz.underlying3 rfl (Rd.cl (j:=0) (St.rd 4 S9 rfl) rfl))) ?_;by_cases h10:ro=z
 ·iterate 6 refine zQ ?_
  by_cases h11:ep=e
  ·iterate 9 refine zQ ?_
   refine vv (v:= .func (.func 170) #[] #[]) (aj rfl rfl (aA Tryz.underlying239 rfl (Rd.cl (j:=0) (St.rd 5 S9 rfl) rfl))) ?_;iterate 2 refine zQ ?_
   refine uF ape (PV ro ep fr tg rd A c l kd qu e pe x _ (St.rd 3 S9 rfl) hb) ?_;rintro _ Qr ⟨rfl,avf⟩;refine ⟨_,rfl,?_⟩;have qK:=S9.on avf;iterate 2 refine zQ ?_
   refine sa 0 qK aC ?_;intro FR jR;iterate 5 refine zQ ?_
   exact ⟨.inr ⟨by omega,rfl⟩,jR.low⟩
  iterate 7 refine zQ ?_
  refine vv gB ?_;refine sa 0 S9 aC ?_;intro JR iD;iterate 6 refine zQ ?_
  exact ⟨.inl ⟨by omega,rfl⟩,iD.low⟩
 iterate 13 refine zQ ?_
 refine vv gB ?_;refine sa 0 S9 aC ?_;intro zJ kr;iterate 6 refine zQ ?_
 exact ⟨.inl ⟨by omega,rfl⟩,kr.low⟩
theorem Ca (ro ep fr tg rd:Int) (A:Option Addr) (c:Nat) (l:List Ev) (kd qu e pe:Int) (x:Ev) (z:Int) (b1 b2:Nat) (hlc:l.length≤c) (w:World) (h:Rd w w.heap.size 6 A l.length (bg l)) (hb:l.length*48≤reachBytes) (h1:Rd w w.heap.size 1 (aD b1 0) 1 [iV z]) (h2:Rd w w.heap.size 1 (aD b2 0) 1 [.func (.func 172) #[] #[]]):
    Calls Tryz.prog 183 #[.agg #[iV ro,iV ep,iV fr,iV tg,iV rd,.slice A l.length c],.agg #[iV kd,iV qu,iV e,iV pe,iV x.kind,iV x.producer,iV x.id,iV x.body,iV x.aL,iV x.hno],pV b1 0,pV b2 0] w (j5 w (if ¬ (ro=z∧ep=e) then (bD,3) else cB ⟨ro,ep,fr,tg,rd,l⟩ e ((l.length:Nat):Int) [] true)):=by
 have S:=(((St.start w).bH h2).bH h1).bH h;have hb2:=hb;unfold reachBytes at hb2;obtain ⟨R,hR⟩: ∃ R,cB ⟨ro,ep,fr,tg,rd,l⟩ e ((l.length:Nat):Int) [] true=R:=⟨_,rfl⟩;rw [hR];refine fE 26 Tryz.func183 ?_;refine cw [0,1,2,3] ?_;iterate 2 refine zQ ?_
 refine gD S ?_;intro b1 w2 S3;refine gD S3 ?_;intro b4 w5 S6;refine eU S6 dK ?_;intro b7 w8 S9;iterate 8 refine zQ ?_
 refine vv (v:=iV z) (aj rfl rfl (aA Tryz.underlying3 rfl (Rd.cl (j:=0) (St.rd 4 S9 rfl) rfl))) ?_;by_cases h10:ro=z
 ·iterate 6 refine zQ ?_
  by_cases h11:ep=e
  ·iterate 9 refine zQ ?_
   refine vv (v:= .func (.func 172) #[] #[]) (aj rfl rfl (aA Tryz.underlying239 rfl (Rd.cl (j:=0) (St.rd 5 S9 rfl) rfl))) ?_;iterate 2 refine zQ ?_
   refine uF apf ((hR▸PS ro ep fr tg rd A c l kd qu e pe x hlc _ (St.rd 3 S9 rfl) hb)) ?_;rintro _ FR ⟨Mr,c13,agF,rfl,T17⟩;refine ⟨_,rfl,?_⟩;have jR:=S9.ext T17 rfl;iterate 2 refine zQ ?_
   refine sa 1 jR aC ?_;intro L8 lg;iterate 5 refine zQ ?_
   rw [if_neg (by omega)];have kr:=lg.aR [6,5,4,3,2,1];exact ⟨Mr,c13,by assumption,rfl,kr⟩
  iterate 7 refine zQ ?_
  refine vv gB ?_;refine sa 0 S9 aC ?_;intro Bh ig;iterate 6 refine zQ ?_
  have mE:=ig.aR [5,4,3,2,1,0];rw [if_pos (by omega)];exact ⟨none,0,Nat.zero_le _,rfl,aJ mE⟩
 iterate 13 refine zQ ?_
 refine vv gB ?_;refine sa 0 S9 aC ?_;intro JU iX;iterate 6 refine zQ ?_
 have kD:=iX.aR [5,4,3,2,1,0];rw [if_pos (by omega)];exact ⟨none,0,Nat.zero_le _,rfl,aJ kD⟩
theorem Cb (ro ep fr tg rd:Int) (A:Option Addr) (c:Nat) (l:List Ev) (kd qu e pe:Int) (x:Ev) (z:Int) (b1 b2:Nat) (he:0≤e∧e≤1048576) (w:World) (h:Rd w w.heap.size 6 A l.length (bg l)) (hb:l.length*48≤reachBytes) (h1:Rd w w.heap.size 1 (aD b1 0) 1 [iV z]) (h2:Rd w w.heap.size 1 (aD b2 0) 1 [.func (.func 173) #[] #[]]):
    Calls Tryz.prog 183 #[.agg #[iV ro,iV ep,iV fr,iV tg,iV rd,.slice A l.length c],.agg #[iV kd,iV qu,iV e,iV pe,iV x.kind,iV x.producer,iV x.id,iV x.body,iV x.aL,iV x.hno],pV b1 0,pV b2 0] w (j5 w (if ¬ (ro=z∧ep=e) then (bD,3) else fB ⟨ro,ep,fr,tg,rd,l⟩ (e+1))):=by
 have S:=(((St.start w).bH h2).bH h1).bH h;have hb2:=hb;unfold reachBytes at hb2;obtain ⟨R,hR⟩: ∃ R,fB ⟨ro,ep,fr,tg,rd,l⟩ (e+1)=R:=⟨_,rfl⟩;rw [hR];refine fE 26 Tryz.func183 ?_;refine cw [0,1,2,3] ?_;iterate 2 refine zQ ?_
 refine gD S ?_;intro b1 w2 S3;refine gD S3 ?_;intro b4 w5 S6;refine eU S6 dK ?_;intro b7 w8 S9;iterate 8 refine zQ ?_
 refine vv (v:=iV z) (aj rfl rfl (aA Tryz.underlying3 rfl (Rd.cl (j:=0) (St.rd 4 S9 rfl) rfl))) ?_;by_cases h10:ro=z
 ·iterate 6 refine zQ ?_
  by_cases h11:ep=e
  ·iterate 9 refine zQ ?_
   refine vv (v:= .func (.func 173) #[] #[]) (aj rfl rfl (aA Tryz.underlying239 rfl (Rd.cl (j:=0) (St.rd 5 S9 rfl) rfl))) ?_;iterate 2 refine zQ ?_
   refine uF apg ((hR▸PU ro ep fr tg rd A c l kd qu e pe x he _ (St.rd 3 S9 rfl) hb)) ?_;rintro _ FR ⟨Mr,c13,agF,rfl,T17⟩;refine ⟨_,rfl,?_⟩;have jR:=S9.ext T17 rfl;iterate 2 refine zQ ?_
   refine sa 1 jR aC ?_;intro L8 lg;iterate 5 refine zQ ?_
   rw [if_neg (by omega)];have kr:=lg.aR [6,5,4,3,2,1];exact ⟨Mr,c13,by assumption,rfl,kr⟩
  iterate 7 refine zQ ?_
  refine vv gB ?_;refine sa 0 S9 aC ?_;intro Bh ig;iterate 6 refine zQ ?_
  have mE:=ig.aR [5,4,3,2,1,0];rw [if_pos (by omega)];exact ⟨none,0,Nat.zero_le _,rfl,aJ mE⟩
 iterate 13 refine zQ ?_
 refine vv gB ?_;refine sa 0 S9 aC ?_;intro JU iX;iterate 6 refine zQ ?_
 have kD:=iX.aR [5,4,3,2,1,0];rw [if_pos (by omega)];exact ⟨none,0,Nat.zero_le _,rfl,aJ kD⟩
theorem qQ (z:Int) (n:FuncId) (w:World):
    Calls Tryz.prog 168 #[iV z,.func (.func n) #[] #[]] w fun e w'=> ∃ b1 b2,e= .returned (.func (.func 183) #[] #[pV b1 0,pV b2 0])∧St w.heap.size w w' [.blk b1 #[iV z] 3,.blk b2 #[.func (.func n) #[] #[]] 239]:=by
 have S:=St.start w;refine fE 6 Tryz.func168 ?_;refine cw [0,1] ?_;iterate 2 refine zQ ?_
 refine Qn S ?_;intro b1 w2 S3;refine Qn S3 ?_;intro b4 w5 S6;iterate 5 refine zQ ?_
 refine vv FM ?_;iterate 5 refine zQ ?_
 have S7:St w.heap.size w w5 [_,_]:=S6.re [1,0] (by decide);exact ⟨b1,b4,rfl,S7⟩
def aa7 (w:World) (e:Ending) (w':World):Prop:= ∃ m d1 g1 d2 g2 d3 g3 d4 g4 d5 g5,e= .returned (.map (some m))∧St w.heap.size w w' [.blk d5 #[iV 3] 3,.blk g5 #[.func (.func 173) #[] #[]] 239,.blk d4 #[iV 4] 3,.blk g4 #[.func (.func 172) #[] #[]] 239,.blk d3 #[iV 4] 3,.blk g3 #[.func (.func 169) #[] #[]] 239,.blk d2 #[iV 1] 3,.blk g2 #[.func (.func 170) #[] #[]] 239,.blk d1 #[iV 1] 3,.blk g1 #[.func (.func 169) #[] #[]] 239,.loc m (iY Tryz.prog 3 (fun y=>if y=7 then some (.func (.func 183) #[] #[pV d5 0,pV g5 0]) else (fun y=>if y=6 then some (.func (.func 183) #[] #[pV d4 0,pV g4 0]) else (fun y=>if y=5 then some (.func (.func 183) #[] #[pV d3 0,pV g3 0]) else (fun y=>if y=4 then some (.func (.func 171) #[] #[]) else (fun y=>if y=3 then some (.func (.func 183) #[] #[pV d2 0,pV g2 0]) else (fun y=>if y=2 then some (.func (.func 183) #[] #[pV d1 0,pV g1 0]) else (fun y=>if y=1 then some (.func (.func 167) #[] #[]) else (fun _=>none) y) y) y) y) y) y) y) 7)]
theorem lW (w:World):
    Calls Tryz.prog 135 #[] w (aa7 w):=by
 have S:=St.start w;refine fE 8 Tryz.func135 ?_;refine bq (l':=[]) trivial (aW (aO (va ?_)));iterate 4 refine zQ ?_
 refine Gb (k:=3) S (wn rfl) rfl rfl rfl ?_;intro b1 w2 S3;refine jL (e:=239) 0 S3 (wn rfl) rfl rfl rfl rfl rfl rfl Tryz.underlying3 Tryz.underlying240 (by decide) (by decide) ?_;intro w4 S5;refine dO LV (qQ 1 169 _) ?_;rintro _ w8 ⟨b6,b7,rfl,T10⟩;refine ⟨_,rfl,?_⟩;have S9:=S5.ext T10 rfl;refine jL (e:=239) 2 S9 (wn rfl) rfl rfl rfl rfl rfl rfl Tryz.underlying3 Tryz.underlying240 (by decide) (by decide) ?_;intro Ee lq;refine dO LV (qQ 1 170 _) ?_;rintro _ FR ⟨b13,b14,rfl,T17⟩;refine ⟨_,rfl,?_⟩;have jR:=lq.ext T17 rfl;refine jL (e:=239) 4 jR (wn rfl) rfl rfl rfl rfl rfl rfl Tryz.underlying3 Tryz.underlying240 (by decide) (by decide) ?_;intro L8 lg;refine jL (e:=239) 4 lg (wn rfl) rfl rfl rfl rfl rfl rfl Tryz.underlying3 Tryz.underlying240 (by decide) (by decide) ?_;intro ZH qP;refine dO LV (qQ 4 169 _) ?_;rintro _ JU ⟨NR,xX,rfl,T26⟩;refine ⟨_,rfl,?_⟩;have iX:=qP.ext T26 rfl;refine jL (e:=239) 6 iX (wn rfl) rfl rfl rfl rfl rfl rfl Tryz.underlying3 Tryz.underlying240 (by decide) (by decide) ?_;intro JV qM;refine dO LV (qQ 4 172 _) ?_;rintro _ Zx ⟨b29,b30,rfl,T33⟩;refine ⟨_,rfl,?_⟩;have pE:=qM.ext T33 rfl;refine jL (e:=239) 8 pE (wn rfl) rfl rfl rfl rfl rfl rfl Tryz.underlying3 Tryz.underlying240 (by decide) (by decide) ?_;intro WX kC;refine dO LV (qQ 3 173 _) ?_;rintro _ Zy ⟨tH,b37,rfl,T40⟩;refine ⟨_,rfl,?_⟩;have yV:=kC.ext T40 rfl;refine jL (e:=239) 10 yV (wn rfl) rfl rfl rfl rfl rfl rfl Tryz.underlying3 Tryz.underlying240 (by decide) (by decide) ?_;intro Zt tC;iterate 6 refine zQ ?_
 exact ⟨b1,b6,b7,b13,b14,NR,xX,b29,b30,tH,b37,rfl,tC⟩
def mg (w:World) (r:bO×Int) (e:Ending) (w':World):Prop:= ∃ A c,∃ _:r.1.evs.length≤c,e= .returned (.tuple #[.agg #[iV r.1.role,iV r.1.ep,iV r.1.fr,iV r.1.tg,iV r.1.rd,.slice A r.1.evs.length c],iV r.2])∧St w.heap.size w w' [.bG 6 A r.1.evs.length (bg r.1.evs)]
section
variable {b:bO} {r:dx} {qu e pe:Int} {x:Ev}
theorem qo (h:aP r=0):1≤r.kind∧r.kind≤7∧0≤r.queue∧r.queue≤3∧0≤r.epoch∧r.epoch≤1048576∧0≤r.peer∧r.peer≤4:=by
 unfold aP at h
 split at h
 ·cases h
 rename_i h1
 split at h
 ·cases h
 rename_i h2
 simp [jh] at h1 h2;omega
theorem aa8 (h: ¬ (1≤r.kind∧r.kind≤7)):aP r=3:=by
 unfold aP;rw [if_pos (by simp [jh];omega)]
theorem qp (h: ¬ au b=0):dN b r=(bD,au b):=by unfold dN;rw [if_pos h]
theorem qw (h:au b=0) (h1: ¬ aP r=0):dN b r=(bD,aP r):=by unfold dN;rw [if_neg (fun k=>k h),if_pos h1]
theorem mU (h:au b=0) (h1:aP r=0) (h2:b.role=2∨(r.kind≠3∧r.kind≠4∧r.peer≠0)):dN b r=(bD,3):=by unfold dN;rw [if_neg (fun k=>k h),if_neg (fun k=>k h1),if_pos h2]
theorem mV (h:au b=0) (h1:aP r=0) (h3: ¬ (jo b r).2=0):dN b r=(bD,3):=by
 unfold dN;rw [if_neg (fun k=>k h),if_neg (fun k=>k h1)];split
 ·rfl
 first | rfl | rw [if_pos h3]
theorem iq (h:au b=0) (h1:aP r=0) (h2: ¬ (b.role=2∨(r.kind≠3∧r.kind≠4∧r.peer≠0))) (h3:(jo b r).2=0):dN b r=((jo b r).1,0):=by
 unfold dN;rw [if_neg (fun k=>k h),if_neg (fun k=>k h1),if_neg h2,if_neg (fun k=>k h3)]
theorem akQ:jo b ⟨1,qu,e,pe,x⟩=iB b e:=by simp [jo]
theorem ZO:jo b ⟨2,qu,e,pe,x⟩=if ¬ (b.role=1∧b.ep=e) then (bD,3) else Aa b x:=by simp [jo]
theorem qx:jo b ⟨3,qu,e,pe,x⟩=if ¬ (b.role=1∧b.ep=e) then (bD,3) else Rl b pe:=by simp [jo]
theorem akR:jo b ⟨4,qu,e,pe,x⟩=dn b e pe:=by simp [jo]
theorem ZP:jo b ⟨5,qu,e,pe,x⟩=if ¬ (b.role=4∧b.ep=e) then (bD,3) else Aa b x:=by simp [jo]
theorem akS:jo b ⟨6,qu,e,pe,x⟩=if ¬ (b.role=4∧b.ep=e) then (bD,3) else cB b e b.evs.length [] true:=by simp [jo]
theorem akT:jo b ⟨7,qu,e,pe,x⟩=if ¬ (b.role=3∧b.ep=e) then (bD,3) else fB b (e+1):=by simp [jo]
theorem aa9 {a:Int}:(cB b e a [] true).1.evs.length≤b.evs.length+1:=by
 unfold cB
 repeat' split
 all_goals simp [bD]
theorem sU:(jo b r).1.evs.length≤b.evs.length+1:=by
 have h6:=aa9 (b:=b) (e:=r.epoch) (a:=b.evs.length);unfold jo
 (repeat' split)<;>first | exact h6 | (unfold iB;(repeat' split)<;>simp [bD]) | (unfold dn;(repeat' split)<;>simp [bD]) | (unfold fB;(repeat' split)<;>simp [bD]) | (unfold Aa;(repeat' split)<;>simp [bD]) | simp [bD,Rl]
end
theorem Fh {P:Program} {f:FuncId} {vs:Array Value} {w:World} {p:Prop} {X Y:Ending} {B:Nat} (h:Calls P f vs w (fun e' w'=>(¬ p∧e'=X∨p∧e'=Y)∧Below B w w')) (hp:p):Calls P f vs w (fun e' w'=>e'=Y∧Below B w w'):=
 h.mono fun _ _ k=>⟨k.1.elim (fun q=>absurd hp q.1) (fun q=>q.2),k.2⟩
theorem Ki {P:Program} {f:FuncId} {vs:Array Value} {w:World} {p:Prop} {X Y:Ending} {B:Nat} (h:Calls P f vs w (fun e' w'=>(¬ p∧e'=X∨p∧e'=Y)∧Below B w w')) (hp: ¬ p):Calls P f vs w (fun e' w'=>e'=X∧Below B w w'):=
 h.mono fun _ _ k=>⟨k.1.elim (fun q=>q.2) (fun q=>absurd q.1 hp),k.2⟩
theorem St.vT {B:Nat} {w0 w:World} {fs:List Fact} {b:Nat} {R R':Obj→Prop} (i:Nat) (S:St B w0 w fs) (hi:fs[i]? =some (.loc b R)) (h: ∀ o,R o→R' o):St B w0 w (fs.set i (.loc b R')):=by
 obtain ⟨o,ho,hR⟩:=S.loc i hi;exact S.Qg i hi ⟨rfl,rfl,rfl,rfl,fun _ _=>rfl⟩ ho (h _ hR)
theorem pJ {P:Program} {k:TypeId} {f:Int→Option Value} {n:Nat} {o:Obj} {z:Int} {v:Value} (h:iY P k f n o) (hf:f z=some v):iY P k (fun y=>if y=z then some v else none) n o:=by
 obtain ⟨es,c,e,h⟩:=h;refine ⟨es,c,e,fun w b hb=>?_⟩;obtain ⟨D,h1,h2⟩:=h w b hb;refine ⟨D,h1,fun y u hu=>?_⟩;dsimp only at hu;by_cases hy:y=z
 ·rw [if_pos hy] at hu;cases hu;rw [hy];exact h2 z v hf
 rw [if_neg hy] at hu;cases hu
theorem Oc (w:World):Calls Tryz.prog 135 #[] w fun e w'=> ∃ m,e= .returned (.map (some m))∧St w.heap.size w w' [.loc m (iY Tryz.prog 3 (fun y=>if y=1 then some (.func (.func 167) #[] #[]) else none) 7)]:=
 (lW w).mono fun _ _ ⟨m,d1,g1,d2,g2,d3,g3,d4,g4,d5,g5,h,S⟩=>⟨m,h,(St.del 0 (St.del 1 (St.del 2 (St.del 3 (St.del 4 (St.del 5 (St.del 6 (St.del 7 (St.del 8 (St.del 9 (St.vT 10 S rfl (fun _ h=>pJ h (z:=1) rfl))))))))))))⟩
theorem Od (w:World):Calls Tryz.prog 135 #[] w fun e w'=> ∃ m d1 g1,e= .returned (.map (some m))∧St w.heap.size w w' [.blk d1 #[iV 1] 3,.blk g1 #[.func (.func 169) #[] #[]] 239,.loc m (iY Tryz.prog 3 (fun y=>if y=2 then some (.func (.func 183) #[] #[pV d1 0,pV g1 0]) else none) 7)]:=
 (lW w).mono fun _ _ ⟨m,d1,g1,d2,g2,d3,g3,d4,g4,d5,g5,h,S⟩=>⟨m,d1,g1,h,(St.del 0 (St.del 1 (St.del 2 (St.del 3 (St.del 4 (St.del 5 (St.del 6 (St.del 7 (St.vT 10 S rfl (fun _ h=>pJ h (z:=2) rfl))))))))))⟩
theorem Oe (w:World):Calls Tryz.prog 135 #[] w fun e w'=> ∃ m d2 g2,e= .returned (.map (some m))∧St w.heap.size w w' [.blk d2 #[iV 1] 3,.blk g2 #[.func (.func 170) #[] #[]] 239,.loc m (iY Tryz.prog 3 (fun y=>if y=3 then some (.func (.func 183) #[] #[pV d2 0,pV g2 0]) else none) 7)]:=
 (lW w).mono fun _ _ ⟨m,d1,g1,d2,g2,d3,g3,d4,g4,d5,g5,h,S⟩=>⟨m,d2,g2,h,(St.del 0 (St.del 1 (St.del 2 (St.del 3 (St.del 4 (St.del 5 (St.del 8 (St.del 9 (St.vT 10 S rfl (fun _ h=>pJ h (z:=3) rfl))))))))))⟩
theorem Og (w:World):Calls Tryz.prog 135 #[] w fun e w'=> ∃ m,e= .returned (.map (some m))∧St w.heap.size w w' [.loc m (iY Tryz.prog 3 (fun y=>if y=4 then some (.func (.func 171) #[] #[]) else none) 7)]:=
 (lW w).mono fun _ _ ⟨m,d1,g1,d2,g2,d3,g3,d4,g4,d5,g5,h,S⟩=>⟨m,h,(St.del 0 (St.del 1 (St.del 2 (St.del 3 (St.del 4 (St.del 5 (St.del 6 (St.del 7 (St.del 8 (St.del 9 (St.vT 10 S rfl (fun _ h=>pJ h (z:=4) rfl))))))))))))⟩
theorem Oh (w:World):Calls Tryz.prog 135 #[] w fun e w'=> ∃ m d3 g3,e= .returned (.map (some m))∧St w.heap.size w w' [.blk d3 #[iV 4] 3,.blk g3 #[.func (.func 169) #[] #[]] 239,.loc m (iY Tryz.prog 3 (fun y=>if y=5 then some (.func (.func 183) #[] #[pV d3 0,pV g3 0]) else none) 7)]:=
 (lW w).mono fun _ _ ⟨m,d1,g1,d2,g2,d3,g3,d4,g4,d5,g5,h,S⟩=>⟨m,d3,g3,h,(St.del 0 (St.del 1 (St.del 2 (St.del 3 (St.del 6 (St.del 7 (St.del 8 (St.del 9 (St.vT 10 S rfl (fun _ h=>pJ h (z:=5) rfl))))))))))⟩
theorem Oi (w:World):Calls Tryz.prog 135 #[] w fun e w'=> ∃ m d4 g4,e= .returned (.map (some m))∧St w.heap.size w w' [.blk d4 #[iV 4] 3,.blk g4 #[.func (.func 172) #[] #[]] 239,.loc m (iY Tryz.prog 3 (fun y=>if y=6 then some (.func (.func 183) #[] #[pV d4 0,pV g4 0]) else none) 7)]:=
 (lW w).mono fun _ _ ⟨m,d1,g1,d2,g2,d3,g3,d4,g4,d5,g5,h,S⟩=>⟨m,d4,g4,h,(St.del 0 (St.del 1 (St.del 4 (St.del 5 (St.del 6 (St.del 7 (St.del 8 (St.del 9 (St.vT 10 S rfl (fun _ h=>pJ h (z:=6) rfl))))))))))⟩
theorem Oj (w:World):Calls Tryz.prog 135 #[] w fun e w'=> ∃ m d5 g5,e= .returned (.map (some m))∧St w.heap.size w w' [.blk d5 #[iV 3] 3,.blk g5 #[.func (.func 173) #[] #[]] 239,.loc m (iY Tryz.prog 3 (fun y=>if y=7 then some (.func (.func 183) #[] #[pV d5 0,pV g5 0]) else none) 7)]:=
 (lW w).mono fun _ _ ⟨m,d1,g1,d2,g2,d3,g3,d4,g4,d5,g5,h,S⟩=>⟨m,d5,g5,h,(St.del 2 (St.del 3 (St.del 4 (St.del 5 (St.del 6 (St.del 7 (St.del 8 (St.del 9 (St.vT 10 S rfl (fun _ h=>pJ h (z:=7) rfl))))))))))⟩
theorem tJ (k:Int) (h:k≠3∧k≠4) (w:World):
    Calls Tryz.prog 134 #[iV k] w (zV w true):=by
 have S:=St.start w;refine fE 9 Tryz.func134 ?_;refine cw [0] ?_;iterate 18 refine zQ ?_
 exact ⟨rfl,S.low⟩
theorem Hg (k:Int) (h:k=3∨k=4) (w:World):
    Calls Tryz.prog 134 #[iV k] w (zV w false):=by
 have S:=St.start w;refine fE 9 Tryz.func134 ?_;refine cw [0] ?_;iterate 8 refine zQ ?_
 by_cases h1:k=3
 ·iterate 10 refine zQ ?_
  exact ⟨rfl,S.low⟩
 iterate 3 refine zQ ?_
 by_cases h2:k=4
 ·iterate 7 refine zQ ?_
  exact ⟨rfl,S.low⟩
 iterate 7 refine zQ ?_
 omega
theorem abb (ro ep fr tg rd:Int) (A:Option Addr) (c:Nat) (l:List Ev) (kd qu e pe:Int) (x:Ev) (hk: ¬ (1≤kd∧kd≤7)) (w:World) (h:Rd w w.heap.size 6 A l.length (bg l)) (hb:l.length*48≤reachBytes):
    Calls Tryz.prog 112 #[.agg #[iV ro,iV ep,iV fr,iV tg,iV rd,.slice A l.length c],.agg #[iV kd,iV qu,iV e,iV pe,iV x.kind,iV x.producer,iV x.id,iV x.body,iV x.aL,iV x.hno]] w (mg w (dN ⟨ro,ep,fr,tg,rd,l⟩ ⟨kd,qu,e,pe,x⟩)):=by
 have S:=(St.start w).bH h;have hb2:=hb;unfold reachBytes at hb2;refine fE 54 Tryz.func112 ?_;refine cw [0,1] ?_;iterate 2 refine zQ ?_
 refine gD S ?_;intro b1 w2 S3;refine gD S3 ?_;intro b4 w5 S6;refine eU S6 dK ?_;intro b7 w8 S9;iterate 7 refine zQ ?_
 refine cab lG S9 (cK ro ep fr tg rd A c l _ (St.rd 3 S9 rfl) (by omega)) ?_;intro Ma jQ;iterate 6 refine zQ ?_
 by_cases iQ:au ⟨ro,ep,fr,tg,rd,l⟩=0
 ·have hln:=dY (dJ iQ).2;dsimp only at hln;iterate 10 refine zQ ?_
  refine cab zR jQ (gu ⟨kd,qu,e,pe,x⟩ _) ?_;intro FT gH;iterate 6 refine zQ ?_
  have hne: ¬ aP ⟨kd,qu,e,pe,x⟩=0:=by rw [aa8 (by exact hk)];decide
  iterate 6 refine zQ ?_
  refine vv gB ?_;refine zQ ?_;refine sa 0 gH aC ?_;intro JR iD;iterate 6 refine zQ ?_
  have lg:=iD.aR [3,2,1,0];rw [qw iQ hne];exact ⟨none,0,Nat.le_refl 0,rfl,aJ lg⟩
 iterate 6 refine zQ ?_
 refine vv gB ?_;refine zQ ?_;refine sa 0 jQ aC ?_;intro ZH qP;iterate 6 refine zQ ?_
 have ig:=qP.aR [3,2,1,0];rw [qp iQ];exact ⟨none,0,Nat.le_refl 0,rfl,aJ ig⟩
theorem abd (ro ep fr tg rd:Int) (A:Option Addr) (c:Nat) (l:List Ev) (qu e pe:Int) (x:Ev) (hlc:l.length≤c) (w:World) (h:Rd w w.heap.size 6 A l.length (bg l)) (hb:l.length*48≤reachBytes):
    Calls Tryz.prog 112 #[.agg #[iV ro,iV ep,iV fr,iV tg,iV rd,.slice A l.length c],.agg #[iV 1,iV qu,iV e,iV pe,iV x.kind,iV x.producer,iV x.id,iV x.body,iV x.aL,iV x.hno]] w (mg w (dN ⟨ro,ep,fr,tg,rd,l⟩ ⟨1,qu,e,pe,x⟩)):=by
 have S:=(St.start w).bH h;have hb2:=hb;unfold reachBytes at hb2;obtain ⟨R,hR⟩: ∃ R,jo ⟨ro,ep,fr,tg,rd,l⟩ ⟨1,qu,e,pe,x⟩=R:=⟨_,rfl⟩;have hM:=hR;rw [akQ] at hM
 try dsimp only at hM
 have Mv:R.1.evs.length≤l.length+1:=by rw [←hR];exact sU
 refine fE 54 Tryz.func112 ?_;refine cw [0,1] ?_;iterate 2 refine zQ ?_
 refine gD S ?_;intro b1 w2 S3;refine gD S3 ?_;intro b4 w5 S6;refine eU S6 dK ?_;intro b7 w8 S9;iterate 7 refine zQ ?_
 refine cab lG S9 (cK ro ep fr tg rd A c l _ (St.rd 3 S9 rfl) (by omega)) ?_;intro Ma jQ;iterate 6 refine zQ ?_
 by_cases iQ:au ⟨ro,ep,fr,tg,rd,l⟩=0
 ·have hln:=dY (dJ iQ).2;dsimp only at hln;iterate 10 refine zQ ?_
  refine cab zR jQ (gu ⟨1,qu,e,pe,x⟩ _) ?_;intro FT gH;iterate 6 refine zQ ?_
  by_cases kF:aP ⟨1,qu,e,pe,x⟩=0
  ·have hrz:=qo kF;dsimp only at hrz;iterate 11 refine zQ ?_
   by_cases h18:ro=2
   ·iterate 16 refine zQ ?_
    refine vv gB ?_;refine sa 0 gH aC ?_;intro zJ kr;iterate 6 refine zQ ?_
    have qP:=kr.aR [3,2,1,0];rw [mU iQ kF (by dsimp only;omega)];exact ⟨none,0,Nat.le_refl 0,rfl,aJ qP⟩
   iterate 4 refine zQ ?_
   refine qB ED (tJ 1 (by decide) _) ?_;rintro _ Qs ⟨rfl,za⟩;refine ⟨_,rfl,?_⟩;have mE:=gH.on za;iterate 3 refine zQ ?_
   by_cases qO:pe=0
   ·iterate 8 refine zQ ?_
    refine jU (X:=Nat×(Option Addr)×Nat×Nat) (fun xv=>[(4,pV b7 0),(5,iV 0),(8,pV xv.1 0),(9,iV R.2)]) (fun xv wr=>St w.heap.size w wr [.blk xv.1 #[iV R.1.role,iV R.1.ep,iV R.1.fr,iV R.1.tg,iV R.1.rd,.slice xv.2.1 R.1.evs.length xv.2.2.1] 42,.bG 6 xv.2.1 R.1.evs.length ((R.1.evs).flatMap Ev.cells),.loc xv.2.2.2 (iY Tryz.prog 3 (fun y=>if y=1 then some (.func (.func 167) #[] #[]) else none) 7),.blk b7 #[iV 0,iV 0,iV 0,iV 0,iV 0,.slice none 0 0] 42,.blk b4 #[iV 1,iV qu,iV e,iV pe,iV x.kind,iV x.producer,iV x.id,iV x.body,iV x.aL,iV x.hno] 205,.blk b1 #[iV ro,iV ep,iV fr,iV tg,iV rd,.slice A l.length c] 42,.rd 6 A l.length ((l).flatMap Ev.cells)]) ?_ ?_
    ·have kD:=mE.drew;refine aN 13 kD [] ?_;iterate 4 refine aF ?_
     refine dR (n:=8) (r:=0) (s:=10) (by kernel_rfl) ?_ ?_
     ·refine iH 0 rfl rZ (Oc _) ?_;rintro _ w32 ⟨DC,rfl,T34⟩;refine ⟨_,rfl,?_⟩;have qY:=kD.ext T34 rfl;refine aF ?_;refine dR (n:=7) (r:=3) (s:=10) (by kernel_rfl) ?_ ?_
      ·refine dW (i:=3) rfl rfl (v:= .func (.func 167) #[] #[]) (wn rfl) rfl rfl (dZ 0 qY rfl rfl rfl rfl Tryz.underlying3 Tryz.underlying240 (Tryz.zeroValue239 _) (by decide) rfl) ?_;refine aF ?_;refine dR (n:=6) (r:=6) (s:=10) (by kernel_rfl) ?_ ?_
       ·have HC:=uK ro ep fr tg rd A c l 1 qu e pe x _ (St.rd 4 qY rfl) hb;rw [hM] at HC;refine gI 6 rfl QX (HC) ?_;rintro _ Zy ⟨NY,NZ,ay3,rfl,T40⟩;refine ⟨_,rfl,?_⟩;have yV:=qY.ext T40 rfl;clear HC;iterate 4 refine aF ?_
        refine aS 10 ?_;refine jk 10 rfl yV dK ?_;intro b44 w45 qj;refine aF ?_;refine aS 11 ?_;refine sn 11 rfl 0 qj aC ?_;intro w47 qX;iterate 3 refine aF ?_
        refine bJ (b44,NY,NZ,DC) ?_ ⟨rfl,rfl,rfl,rfl,trivial⟩;exact qX
       refine jk 10 rfl qY dK ?_;intro b50 Zq oF;refine aF ?_;refine aS 6 ?_;have HC:=uK ro ep fr tg rd A c l 1 qu e pe x _ (St.rd 5 oF rfl) hb;rw [hM] at HC;refine gI 6 rfl QX (HC) ?_;rintro _ w56 ⟨A53,c54,ay4,rfl,T58⟩;refine ⟨_,rfl,?_⟩;have sF:=oF.ext T58 rfl;clear HC;iterate 4 refine aF ?_
       refine aS 11 ?_;refine sn 11 rfl 1 sF aC ?_;intro VY uO;iterate 3 refine aF ?_
       have xV:St w.heap.size w VY [_,_,_,_,_,_,_]:=uO.re [1,0,2,3,4,5,6] (by decide);refine bJ (b50,A53,c54,DC) ?_ ⟨rfl,rfl,rfl,rfl,trivial⟩;exact xV
      refine jk 10 rfl qY dK ?_;intro b66 w67 uz;refine aF ?_;refine aS 3 ?_;refine dW (i:=3) rfl rfl (v:= .func (.func 167) #[] #[]) (wn rfl) rfl rfl (dZ 1 uz rfl rfl rfl rfl Tryz.underlying3 Tryz.underlying240 (Tryz.zeroValue239 _) (by decide) rfl) ?_;refine aF ?_;refine aS 6 ?_;have HC:=uK ro ep fr tg rd A c l 1 qu e pe x _ (St.rd 5 uz rfl) hb;rw [hM] at HC;refine gI 6 rfl QX (HC) ?_;rintro _ VZ ⟨A69,c70,ay5,rfl,T74⟩;refine ⟨_,rfl,?_⟩;have qL:=uz.ext T74 rfl;clear HC;iterate 4 refine aF ?_
      refine aS 11 ?_;refine sn 11 rfl 1 qL aC ?_;intro w78 Aq;iterate 3 refine aF ?_
      have pF:St w.heap.size w w78 [_,_,_,_,_,_,_]:=Aq.re [1,0,2,3,4,5,6] (by decide);refine bJ (b66,A69,c70,DC) ?_ ⟨rfl,rfl,rfl,rfl,trivial⟩;exact pF
     refine jk 10 rfl kD dK ?_;intro b82 w83 CJ;refine aF ?_;refine aS 0 ?_;refine iH 0 rfl rZ (Oc _) ?_;rintro _ w86 ⟨m85,rfl,T88⟩;refine ⟨_,rfl,?_⟩;have Du:=CJ.ext T88 rfl;refine aF ?_;refine aS 3 ?_;refine dW (i:=3) rfl rfl (v:= .func (.func 167) #[] #[]) (wn rfl) rfl rfl (dZ 0 Du rfl rfl rfl rfl Tryz.underlying3 Tryz.underlying240 (Tryz.zeroValue239 _) (by decide) rfl) ?_;refine aF ?_;refine aS 6 ?_;have HC:=uK ro ep fr tg rd A c l 1 qu e pe x _ (St.rd 5 Du rfl) hb;rw [hM] at HC;refine gI 6 rfl QX (HC) ?_;rintro _ w92 ⟨A89,c90,ay6,rfl,T94⟩;refine ⟨_,rfl,?_⟩;have yR:=Du.ext T94 rfl;clear HC;iterate 4 refine aF ?_
     refine aS 11 ?_;refine sn 11 rfl 2 yR aC ?_;intro w98 VR;iterate 3 refine aF ?_
     have sG:St w.heap.size w w98 [_,_,_,_,_,_,_]:=VR.re [2,0,1,3,4,5,6] (by decide);refine bJ (b82,A89,c90,m85) ?_ ⟨rfl,rfl,rfl,rfl,trivial⟩;exact sG
    rintro ⟨al2,aCY,aCZ,aC0⟩ Wj wo
    try dsimp only at wo
    refine bq (l':=[(4,pV b7 0),(5,iV 0),(8,pV al2 0),(9,iV R.2)]) ⟨rfl,rfl,rfl,rfl,trivial⟩ (aW (aW (aO (vm ?_))));by_cases ahZ:R.2=0
    ·iterate 7 refine zQ ?_
     have BN:=wo.nil 75 6;iterate 3 refine zQ ?_
     refine dB (news:=(R.1.evs).flatMap Ev.cells) (xs':=(R.1.evs).flatMap Ev.cells) 0 BN (wn rfl) rfl rfl rfl rfl rfl rfl (St.bG 2 BN rfl) Tryz.underlying40 lN rfl (by decide) (dF _) (by simp only [maxLen];omega) (by omega) (rfl) ?_;intro acF acG Kg hc114 ay7 jg;refine zQ ?_;refine lQ 1 jg qV ?_;intro ahr tT;iterate 5 refine zQ ?_
     refine sa 4 tT aC ?_;intro JQ kX;iterate 5 refine zQ ?_
     have oM:=kX.aR [7,6,5,4,3,2,1];rw [iq iQ kF (by dsimp only;omega) (by rw [hR];exact ahZ),hR];rw [Nat.zero_add] at oM⊢;exact ⟨acF,acG,(cO (oM.own 0 rfl)).1,rfl,oM.aZ 0 rfl⟩
    iterate 6 refine zQ ?_
    refine vv gB ?_;refine sa 3 wo aC ?_;intro Xc zZ;iterate 6 refine zQ ?_
    have pz:=zZ.aR [6,5,4,3,2,1,0];rw [mV iQ kF (by rw [hR];exact ahZ)];exact ⟨none,0,Nat.le_refl 0,rfl,aJ pz⟩
   iterate 8 refine zQ ?_
   refine vv gB ?_;refine sa 0 mE aC ?_;intro WJ zY;iterate 6 refine zQ ?_
   have kH:=zY.aR [3,2,1,0];rw [mU iQ kF (by dsimp only;omega)];exact ⟨none,0,Nat.le_refl 0,rfl,aJ kH⟩
  iterate 6 refine zQ ?_
  refine vv gB ?_;refine zQ ?_;refine sa 0 gH aC ?_;intro Ie nM;iterate 6 refine zQ ?_
  have rD:=nM.aR [3,2,1,0];rw [qw iQ kF];exact ⟨none,0,Nat.le_refl 0,rfl,aJ rD⟩
 iterate 6 refine zQ ?_
 refine vv gB ?_;refine zQ ?_;refine sa 0 jQ aC ?_;intro MZ oK;iterate 6 refine zQ ?_
 have qE:=oK.aR [3,2,1,0];rw [qp iQ];exact ⟨none,0,Nat.le_refl 0,rfl,aJ qE⟩
theorem abe (ro ep fr tg rd:Int) (A:Option Addr) (c:Nat) (l:List Ev) (qu e pe:Int) (x:Ev) (hlc:l.length≤c) (w:World) (h:Rd w w.heap.size 6 A l.length (bg l)) (hb:l.length*48≤reachBytes):
    Calls Tryz.prog 112 #[.agg #[iV ro,iV ep,iV fr,iV tg,iV rd,.slice A l.length c],.agg #[iV 2,iV qu,iV e,iV pe,iV x.kind,iV x.producer,iV x.id,iV x.body,iV x.aL,iV x.hno]] w (mg w (dN ⟨ro,ep,fr,tg,rd,l⟩ ⟨2,qu,e,pe,x⟩)):=by
 have S:=(St.start w).bH h;have hb2:=hb;unfold reachBytes at hb2;obtain ⟨R,hR⟩: ∃ R,jo ⟨ro,ep,fr,tg,rd,l⟩ ⟨2,qu,e,pe,x⟩=R:=⟨_,rfl⟩;have hM:=hR;rw [ZO] at hM
 try dsimp only at hM
 have Mv:R.1.evs.length≤l.length+1:=by rw [←hR];exact sU
 refine fE 54 Tryz.func112 ?_;refine cw [0,1] ?_;iterate 2 refine zQ ?_
 refine gD S ?_;intro b1 w2 S3;refine gD S3 ?_;intro b4 w5 S6;refine eU S6 dK ?_;intro b7 w8 S9;iterate 7 refine zQ ?_
 refine cab lG S9 (cK ro ep fr tg rd A c l _ (St.rd 3 S9 rfl) (by omega)) ?_;intro Ma jQ;iterate 6 refine zQ ?_
 by_cases iQ:au ⟨ro,ep,fr,tg,rd,l⟩=0
 ·have hln:=dY (dJ iQ).2;dsimp only at hln;iterate 10 refine zQ ?_
  refine cab zR jQ (gu ⟨2,qu,e,pe,x⟩ _) ?_;intro FT gH;iterate 6 refine zQ ?_
  by_cases kF:aP ⟨2,qu,e,pe,x⟩=0
  ·have hrz:=qo kF;dsimp only at hrz;iterate 11 refine zQ ?_
   by_cases h18:ro=2
   ·iterate 16 refine zQ ?_
    refine vv gB ?_;refine sa 0 gH aC ?_;intro zJ kr;iterate 6 refine zQ ?_
    have qP:=kr.aR [3,2,1,0];rw [mU iQ kF (by dsimp only;omega)];exact ⟨none,0,Nat.le_refl 0,rfl,aJ qP⟩
   iterate 4 refine zQ ?_
   refine qB ED (tJ 2 (by decide) _) ?_;rintro _ Qs ⟨rfl,za⟩;refine ⟨_,rfl,?_⟩;have mE:=gH.on za;iterate 3 refine zQ ?_
   by_cases qO:pe=0
   ·iterate 8 refine zQ ?_
    refine jU (X:=Nat×(Option Addr)×Nat×Nat×Nat×Nat) (fun xv=>[(4,pV b7 0),(5,iV 0),(8,pV xv.1 0),(9,iV R.2)]) (fun xv wr=>St w.heap.size w wr [.blk xv.1 #[iV R.1.role,iV R.1.ep,iV R.1.fr,iV R.1.tg,iV R.1.rd,.slice xv.2.1 R.1.evs.length xv.2.2.1] 42,.bG 6 xv.2.1 R.1.evs.length ((R.1.evs).flatMap Ev.cells),.blk xv.2.2.2.1 #[iV 1] 3,.blk xv.2.2.2.2.1 #[.func (.func 169) #[] #[]] 239,.loc xv.2.2.2.2.2 (iY Tryz.prog 3 (fun y=>if y=2 then some (.func (.func 183) #[] #[pV xv.2.2.2.1 0,pV xv.2.2.2.2.1 0]) else none) 7),.blk b7 #[iV 0,iV 0,iV 0,iV 0,iV 0,.slice none 0 0] 42,.blk b4 #[iV 2,iV qu,iV e,iV pe,iV x.kind,iV x.producer,iV x.id,iV x.body,iV x.aL,iV x.hno] 205,.blk b1 #[iV ro,iV ep,iV fr,iV tg,iV rd,.slice A l.length c] 42,.rd 6 A l.length ((l).flatMap Ev.cells)]) ?_ ?_
    ·have kD:=mE.drew;refine aN 13 kD [] ?_;iterate 4 refine aF ?_
     refine dR (n:=8) (r:=0) (s:=10) (by kernel_rfl) ?_ ?_
     ·refine iH 0 rfl rZ (Od _) ?_;rintro _ WX ⟨DC,rQ,rR,rfl,T36⟩;refine ⟨_,rfl,?_⟩;have kC:=kD.ext T36 rfl;refine aF ?_;refine dR (n:=7) (r:=3) (s:=10) (by kernel_rfl) ?_ ?_
      ·refine dW (i:=3) rfl rfl (v:= .func (.func 183) #[] #[pV rQ 0,pV rR 0]) (wn rfl) rfl rfl (dZ 2 kC rfl rfl rfl rfl Tryz.underlying3 Tryz.underlying240 (Tryz.zeroValue239 _) (by decide) rfl) ?_;refine aF ?_;refine dR (n:=6) (r:=6) (s:=10) (by kernel_rfl) ?_ ?_
       ·have HC:=qm ro ep fr tg rd A c l 2 qu e pe x 1 rQ rR (by omega) _ (St.rd 6 kC rfl) hb (St.iG (xs:=[iV 1]) 0 kC rfl rfl rfl) (St.iG (xs:=[.func (.func 169) #[] #[]]) 1 kC rfl rfl rfl);rw [hM] at HC;refine gI 6 rfl kg (HC) ?_;rintro _ UH ⟨Ml,Mq,YO,rfl,T42⟩;refine ⟨_,rfl,?_⟩;have xU:=kC.ext T42 rfl;clear HC;iterate 4 refine aF ?_
        refine aS 10 ?_;refine jk 10 rfl xU dK ?_;intro Uy w47 qX;refine aF ?_;refine aS 11 ?_;refine sn 11 rfl 0 qX aC ?_;intro Qq rO;iterate 3 refine aF ?_
        refine bJ (Uy,Ml,Mq,rQ,rR,DC) ?_ ⟨rfl,rfl,rfl,rfl,trivial⟩;exact rO
       refine jk 10 rfl kC dK ?_;intro ZC Wu jw;refine aF ?_;refine aS 6 ?_;have HC:=qm ro ep fr tg rd A c l 2 qu e pe x 1 rQ rR (by omega) _ (St.rd 7 jw rfl) hb (St.iG (xs:=[iV 1]) 1 jw rfl rfl rfl) (St.iG (xs:=[.func (.func 169) #[] #[]]) 2 jw rfl rfl rfl);rw [hM] at HC;refine gI 6 rfl kg (HC) ?_;rintro _ ZG ⟨Qy,ZM,YP,rfl,T60⟩;refine ⟨_,rfl,?_⟩;have uQ:=jw.ext T60 rfl;clear HC;iterate 4 refine aF ?_
       refine aS 11 ?_;refine sn 11 rfl 1 uQ aC ?_;intro GZ xV;iterate 3 refine aF ?_
       have oN:St w.heap.size w GZ [_,_,_,_,_,_,_,_,_]:=xV.re [1,0,2,3,4,5,6,7,8] (by decide);refine bJ (ZC,Qy,ZM,rQ,rR,DC) ?_ ⟨rfl,rfl,rfl,rfl,trivial⟩;exact oN
      refine jk 10 rfl kC dK ?_;intro b68 ZN lu;refine aF ?_;refine aS 3 ?_;refine dW (i:=3) rfl rfl (v:= .func (.func 183) #[] #[pV rQ 0,pV rR 0]) (wn rfl) rfl rfl (dZ 3 lu rfl rfl rfl rfl Tryz.underlying3 Tryz.underlying240 (Tryz.zeroValue239 _) (by decide) rfl) ?_;refine aF ?_;refine aS 6 ?_;have HC:=qm ro ep fr tg rd A c l 2 qu e pe x 1 rQ rR (by omega) _ (St.rd 7 lu rfl) hb (St.iG (xs:=[iV 1]) 1 lu rfl rfl rfl) (St.iG (xs:=[.func (.func 169) #[] #[]]) 2 lu rfl rfl rfl);rw [hM] at HC;refine gI 6 rfl kg (HC) ?_;rintro _ UC ⟨A71,c72,YQ,rfl,T76⟩;refine ⟨_,rfl,?_⟩;have vH:=lu.ext T76 rfl;clear HC;iterate 4 refine aF ?_
      refine aS 11 ?_;refine sn 11 rfl 1 vH aC ?_;intro Mc pF;iterate 3 refine aF ?_
      have uj:St w.heap.size w Mc [_,_,_,_,_,_,_,_,_]:=pF.re [1,0,2,3,4,5,6,7,8] (by decide);refine bJ (b68,A71,c72,rQ,rR,DC) ?_ ⟨rfl,rfl,rfl,rfl,trivial⟩;exact uj
     refine jk 10 rfl kD dK ?_;intro Zw Qu uh;refine aF ?_;refine aS 0 ?_;refine iH 0 rfl rZ (Od _) ?_;rintro _ VQ ⟨m87,IX,IY,rfl,Xd⟩;refine ⟨_,rfl,?_⟩;have rP:=uh.ext Xd rfl;refine aF ?_;refine aS 3 ?_;refine dW (i:=3) rfl rfl (v:= .func (.func 183) #[] #[pV IX 0,pV IY 0]) (wn rfl) rfl rfl (dZ 2 rP rfl rfl rfl rfl Tryz.underlying3 Tryz.underlying240 (Tryz.zeroValue239 _) (by decide) rfl) ?_;refine aF ?_;refine aS 6 ?_;have HC:=qm ro ep fr tg rd A c l 2 qu e pe x 1 IX IY (by omega) _ (St.rd 7 rP rfl) hb (St.iG (xs:=[iV 1]) 0 rP rfl rfl rfl) (St.iG (xs:=[.func (.func 169) #[] #[]]) 1 rP rfl rfl rfl);rw [hM] at HC;refine gI 6 rfl kg (HC) ?_;rintro _ Qv ⟨Mw,Mx,YR,rfl,T98⟩;refine ⟨_,rfl,?_⟩;have uP:=rP.ext T98 rfl;clear HC;iterate 4 refine aF ?_
     refine aS 11 ?_;refine sn 11 rfl 4 uP aC ?_;intro Ip l9;iterate 3 refine aF ?_
     have lD:St w.heap.size w Ip [_,_,_,_,_,_,_,_,_]:=l9.re [4,0,1,2,3,5,6,7,8] (by decide);refine bJ (Zw,Mw,Mx,IX,IY,m87) ?_ ⟨rfl,rfl,rfl,rfl,trivial⟩;exact lD
    rintro ⟨Dt,Iq,Ir,ah0,ah1,ah2⟩ Kg jg
    try dsimp only at jg
    refine bq (l':=[(4,pV b7 0),(5,iV 0),(8,pV Dt 0),(9,iV R.2)]) ⟨rfl,rfl,rfl,rfl,trivial⟩ (aW (aW (aO (vm ?_))));by_cases sI:R.2=0
    ·iterate 7 refine zQ ?_
     have ko:=jg.nil 75 6;iterate 3 refine zQ ?_
     refine dB (news:=(R.1.evs).flatMap Ev.cells) (xs':=(R.1.evs).flatMap Ev.cells) 0 ko (wn rfl) rfl rfl rfl rfl rfl rfl (St.bG 2 ko rfl) Tryz.underlying40 lN rfl (by decide) (dF _) (by simp only [maxLen];omega) (by omega) (rfl) ?_;intro Ng c117 JQ YS YT kX;refine zQ ?_;refine lQ 1 kX qV ?_;intro MX pz;iterate 5 refine zQ ?_
     refine sa 6 pz aC ?_;intro WJ zY;iterate 5 refine zQ ?_
     have kH:=zY.aR [9,8,7,6,5,4,3,2,1];rw [iq iQ kF (by dsimp only;omega) (by rw [hR];exact sI),hR];rw [Nat.zero_add] at kH⊢;exact ⟨Ng,c117,(cO (kH.own 0 rfl)).1,rfl,kH.aZ 0 rfl⟩
    iterate 6 refine zQ ?_
    refine vv gB ?_;refine sa 5 jg aC ?_;intro Ie nM;iterate 6 refine zQ ?_
    have rD:=nM.aR [8,7,6,5,4,3,2,1,0];rw [mV iQ kF (by rw [hR];exact sI)];exact ⟨none,0,Nat.le_refl 0,rfl,aJ rD⟩
   iterate 8 refine zQ ?_
   refine vv gB ?_;refine sa 0 mE aC ?_;intro MZ oK;iterate 6 refine zQ ?_
   have qE:=oK.aR [3,2,1,0];rw [mU iQ kF (by dsimp only;omega)];exact ⟨none,0,Nat.le_refl 0,rfl,aJ qE⟩
  iterate 6 refine zQ ?_
  refine vv gB ?_;refine zQ ?_;refine sa 0 gH aC ?_;intro Ih pI;iterate 6 refine zQ ?_
  have xO:=pI.aR [3,2,1,0];rw [qw iQ kF];exact ⟨none,0,Nat.le_refl 0,rfl,aJ xO⟩
 iterate 6 refine zQ ?_
 refine vv gB ?_;refine zQ ?_;refine sa 0 jQ aC ?_;intro Kh uJ;iterate 6 refine zQ ?_
 have qF:=uJ.aR [3,2,1,0];rw [qp iQ];exact ⟨none,0,Nat.le_refl 0,rfl,aJ qF⟩
theorem abf (ro ep fr tg rd:Int) (A:Option Addr) (c:Nat) (l:List Ev) (qu e pe:Int) (x:Ev) (hlc:l.length≤c) (w:World) (h:Rd w w.heap.size 6 A l.length (bg l)) (hb:l.length*48≤reachBytes):
    Calls Tryz.prog 112 #[.agg #[iV ro,iV ep,iV fr,iV tg,iV rd,.slice A l.length c],.agg #[iV 3,iV qu,iV e,iV pe,iV x.kind,iV x.producer,iV x.id,iV x.body,iV x.aL,iV x.hno]] w (mg w (dN ⟨ro,ep,fr,tg,rd,l⟩ ⟨3,qu,e,pe,x⟩)):=by
 have S:=(St.start w).bH h;have hb2:=hb;unfold reachBytes at hb2;refine fE 54 Tryz.func112 ?_;refine cw [0,1] ?_;iterate 2 refine zQ ?_
 refine gD S ?_;intro b1 w2 S3;refine gD S3 ?_;intro b4 w5 S6;refine eU S6 dK ?_;intro b7 w8 S9;iterate 7 refine zQ ?_
 refine cab lG S9 (cK ro ep fr tg rd A c l _ (St.rd 3 S9 rfl) (by omega)) ?_;intro Ma jQ;iterate 6 refine zQ ?_
 by_cases iQ:au ⟨ro,ep,fr,tg,rd,l⟩=0
 ·have hln:=dY (dJ iQ).2;dsimp only at hln;iterate 10 refine zQ ?_
  refine cab zR jQ (gu ⟨3,qu,e,pe,x⟩ _) ?_;intro FT gH;iterate 6 refine zQ ?_
  by_cases kF:aP ⟨3,qu,e,pe,x⟩=0
  ·have hrz:=qo kF;dsimp only at hrz;iterate 11 refine zQ ?_
   by_cases h18:ro=2
   ·iterate 16 refine zQ ?_
    refine vv gB ?_;refine sa 0 gH aC ?_;intro zJ kr;iterate 6 refine zQ ?_
    have qP:=kr.aR [3,2,1,0];rw [mU iQ kF (by dsimp only;omega)];exact ⟨none,0,Nat.le_refl 0,rfl,aJ qP⟩
   iterate 4 refine zQ ?_
   refine qB ED (Hg 3 (by decide) _) ?_;rintro _ Qs ⟨rfl,za⟩;refine ⟨_,rfl,?_⟩;have mE:=gH.on za;iterate 12 refine zQ ?_
   have iX:=mE.drew;refine aN 13 iX [] ?_;iterate 4 refine aF ?_
   refine dR (n:=8) (r:=0) (s:=10) (by kernel_rfl) ?_ ?_
   ·refine iH 0 rfl rZ (Oe _) ?_;rintro _ Qp ⟨m30,ZQ,ZR,rfl,T35⟩;refine ⟨_,rfl,?_⟩;have oD:=iX.ext T35 rfl;refine aF ?_;refine dR (n:=7) (r:=3) (s:=10) (by kernel_rfl) ?_ ?_
    ·refine dW (i:=3) rfl rfl (v:= .func (.func 183) #[] #[pV ZQ 0,pV ZR 0]) (wn rfl) rfl rfl (dZ 2 oD rfl rfl rfl rfl Tryz.underlying3 Tryz.underlying240 (Tryz.zeroValue239 _) (by decide) rfl) ?_;refine aF ?_;refine dR (n:=6) (r:=6) (s:=10) (by kernel_rfl) ?_ ?_
     ·by_cases hfit:ro=1∧ep=e
      ·refine gI 6 rfl kg (Fh (nP ro ep fr tg rd A c l 3 qu e pe x 1 ZQ ZR _ (St.rd 6 oD rfl) hb (St.iG (xs:=[iV 1]) 0 oD rfl rfl rfl) (St.iG (xs:=[.func (.func 170) #[] #[]]) 1 oD rfl rfl rfl)) hfit) ?_;rintro _ w36 ⟨rfl,avg⟩;refine ⟨_,rfl,?_⟩;have qN:=oD.on avg;iterate 4 refine aF ?_
       refine aS 10 ?_;refine jk 10 rfl qN dK ?_;intro UU w43 Ar;refine aF ?_;refine aS 11 ?_;refine sn 11 rfl 0 Ar aC ?_;intro w45 qj;iterate 3 refine aF ?_
       iterate 12 refine zQ ?_
       have qX:=qj.nil 75 6;iterate 3 refine zQ ?_
       refine dB (news:=(l).flatMap Ev.cells) (xs':=(l).flatMap Ev.cells) 0 qX (wn rfl) rfl rfl rfl rfl rfl rfl (St.rd 8 qX rfl) Tryz.underlying40 lN rfl (by decide) (dF _) (by simp only [maxLen];omega) (by omega) (rfl) ?_;intro A49 c50 Zq aC1 aC2 oF;refine zQ ?_;refine lQ 1 oF qV ?_;intro Zv yT;iterate 5 refine zQ ?_
       refine sa 5 yT aC ?_;intro w57 yU;iterate 5 refine zQ ?_
       have uQ:=yU.aR [8,7,6,5,4,3,2,1];rw [iq iQ kF (by dsimp only;omega) (by rw [qx,if_neg (fun h=>h hfit)];rfl),qx,if_neg (fun h=>h hfit)];rw [Nat.zero_add] at uQ⊢;exact ⟨A49,c50,(cO (uQ.own 0 rfl)).1,rfl,uQ.aZ 0 rfl⟩
      refine gI 6 rfl kg (Ki (nP ro ep fr tg rd A c l 3 qu e pe x 1 ZQ ZR _ (St.rd 6 oD rfl) hb (St.iG (xs:=[iV 1]) 0 oD rfl rfl rfl) (St.iG (xs:=[.func (.func 170) #[] #[]]) 1 oD rfl rfl rfl)) hfit) ?_;rintro _ Qx ⟨rfl,anq⟩;refine ⟨_,rfl,?_⟩;have Au:=oD.on anq;iterate 4 refine aF ?_
      refine aS 10 ?_;refine jk 10 rfl Au dK ?_;intro b66 w67 uz;refine aF ?_;refine aS 11 ?_;refine sn 11 rfl 0 uz aC ?_;intro ZN lu;iterate 3 refine aF ?_
      iterate 11 refine zQ ?_
      refine vv gB ?_;refine sa 4 lu aC ?_;intro VZ qL;iterate 6 refine zQ ?_
      have JM:=qL.aR [7,6,5,4,3,2,1,0];rw [mV iQ kF (by rw [qx,if_pos hfit];decide)];exact ⟨none,0,Nat.le_refl 0,rfl,aJ JM⟩
     refine jk 10 rfl oD dK ?_;intro b75 w76 CB;refine aF ?_;refine aS 6 ?_;by_cases hfit:ro=1∧ep=e
     ·refine gI 6 rfl kg (Fh (nP ro ep fr tg rd A c l 3 qu e pe x 1 ZQ ZR _ (St.rd 7 CB rfl) hb (St.iG (xs:=[iV 1]) 1 CB rfl rfl rfl) (St.iG (xs:=[.func (.func 170) #[] #[]]) 2 CB rfl rfl rfl)) hfit) ?_;rintro _ w78 ⟨rfl,avh⟩;refine ⟨_,rfl,?_⟩;have Aq:=CB.on avh;iterate 4 refine aF ?_
      refine aS 11 ?_;refine sn 11 rfl 0 Aq aC ?_;intro w84 Bl;iterate 3 refine aF ?_
      iterate 12 refine zQ ?_
      have Du:=Bl.nil 75 6;iterate 3 refine zQ ?_
      refine dB (news:=(l).flatMap Ev.cells) (xs':=(l).flatMap Ev.cells) 0 Du (wn rfl) rfl rfl rfl rfl rfl rfl (St.rd 8 Du rfl) Tryz.underlying40 lN rfl (by decide) (dF _) (by simp only [maxLen];omega) (by omega) (rfl) ?_;intro A88 c89 VQ aC3 aC4 rP;refine zQ ?_;refine lQ 1 rP qV ?_;intro w94 Ef;iterate 5 refine zQ ?_
      refine sa 5 Ef aC ?_;intro Qv uP;iterate 5 refine zQ ?_
      have Aw:=uP.aR [8,7,6,5,4,3,2,1];rw [iq iQ kF (by dsimp only;omega) (by rw [qx,if_neg (fun h=>h hfit)];rfl),qx,if_neg (fun h=>h hfit)];rw [Nat.zero_add] at Aw⊢;exact ⟨A88,c89,(cO (Aw.own 0 rfl)).1,rfl,Aw.aZ 0 rfl⟩
     refine gI 6 rfl kg (Ki (nP ro ep fr tg rd A c l 3 qu e pe x 1 ZQ ZR _ (St.rd 7 CB rfl) hb (St.iG (xs:=[iV 1]) 1 CB rfl rfl rfl) (St.iG (xs:=[.func (.func 170) #[] #[]]) 2 CB rfl rfl rfl)) hfit) ?_;rintro _ w99 ⟨rfl,apW⟩;refine ⟨_,rfl,?_⟩;have oJ:=CB.on apW;iterate 4 refine aF ?_
     refine aS 11 ?_;refine sn 11 rfl 0 oJ aC ?_;intro anr xL;iterate 3 refine aF ?_
     iterate 11 refine zQ ?_
     refine vv gB ?_;refine sa 4 xL aC ?_;intro ahq BN;iterate 6 refine zQ ?_
     have pq:=BN.aR [7,6,5,4,3,2,1,0];rw [mV iQ kF (by rw [qx,if_pos hfit];decide)];exact ⟨none,0,Nat.le_refl 0,rfl,aJ pq⟩
    refine jk 10 rfl oD dK ?_;intro aC5 Kg jg;refine aF ?_;refine aS 3 ?_;refine dW (i:=3) rfl rfl (v:= .func (.func 183) #[] #[pV ZQ 0,pV ZR 0]) (wn rfl) rfl rfl (dZ 3 jg rfl rfl rfl rfl Tryz.underlying3 Tryz.underlying240 (Tryz.zeroValue239 _) (by decide) rfl) ?_;refine aF ?_;refine aS 6 ?_;by_cases hfit:ro=1∧ep=e
    ·refine gI 6 rfl kg (Fh (nP ro ep fr tg rd A c l 3 qu e pe x 1 ZQ ZR _ (St.rd 7 jg rfl) hb (St.iG (xs:=[iV 1]) 1 jg rfl rfl rfl) (St.iG (xs:=[.func (.func 170) #[] #[]]) 2 jg rfl rfl rfl)) hfit) ?_;rintro _ V6 ⟨rfl,apX⟩;refine ⟨_,rfl,?_⟩;have ko:=jg.on apX;iterate 4 refine aF ?_
     refine aS 11 ?_;refine sn 11 rfl 0 ko aC ?_;intro ahs tV;iterate 3 refine aF ?_
     iterate 12 refine zQ ?_
     have pz:=tV.nil 75 6;iterate 3 refine zQ ?_
     refine dB (news:=(l).flatMap Ev.cells) (xs':=(l).flatMap Ev.cells) 0 pz (wn rfl) rfl rfl rfl rfl rfl rfl (St.rd 8 pz rfl) Tryz.underlying40 lN rfl (by decide) (dF _) (by simp only [maxLen];omega) (by omega) (rfl) ?_;intro ahT ahU ahS ay8 ay9 Ig;refine zQ ?_;refine lQ 1 Ig qV ?_;intro MZ oK;iterate 5 refine zQ ?_
     refine sa 5 oK aC ?_;intro atK M6;iterate 5 refine zQ ?_
     have pI:=M6.aR [8,7,6,5,4,3,2,1];rw [iq iQ kF (by dsimp only;omega) (by rw [qx,if_neg (fun h=>h hfit)];rfl),qx,if_neg (fun h=>h hfit)];rw [Nat.zero_add] at pI⊢;exact ⟨ahT,ahU,(cO (pI.own 0 rfl)).1,rfl,pI.aZ 0 rfl⟩
    refine gI 6 rfl kg (Ki (nP ro ep fr tg rd A c l 3 qu e pe x 1 ZQ ZR _ (St.rd 7 jg rfl) hb (St.iG (xs:=[iV 1]) 1 jg rfl rfl rfl) (St.iG (xs:=[.func (.func 170) #[] #[]]) 2 jg rfl rfl rfl)) hfit) ?_;rintro _ ahl ⟨rfl,apY⟩;refine ⟨_,rfl,?_⟩;have yS:=jg.on apY;iterate 4 refine aF ?_
    refine aS 11 ?_;refine sn 11 rfl 0 yS aC ?_;intro ant EY;iterate 3 refine aF ?_
    iterate 11 refine zQ ?_
    refine vv gB ?_;refine sa 4 EY aC ?_;intro VU Dq;iterate 6 refine zQ ?_
    have MV:=Dq.aR [7,6,5,4,3,2,1,0];rw [mV iQ kF (by rw [qx,if_pos hfit];decide)];exact ⟨none,0,Nat.le_refl 0,rfl,aJ MV⟩
   refine jk 10 rfl iX dK ?_;intro auC auD xM;refine aF ?_;refine aS 0 ?_;refine iH 0 rfl rZ (Oe _) ?_;rintro _ anu ⟨aC6,ah3,ah4,rfl,avi⟩;refine ⟨_,rfl,?_⟩;have tX:=xM.ext avi rfl;refine aF ?_;refine aS 3 ?_;refine dW (i:=3) rfl rfl (v:= .func (.func 183) #[] #[pV ah3 0,pV ah4 0]) (wn rfl) rfl rfl (dZ 2 tX rfl rfl rfl rfl Tryz.underlying3 Tryz.underlying240 (Tryz.zeroValue239 _) (by decide) rfl) ?_;refine aF ?_;refine aS 6 ?_;by_cases hfit:ro=1∧ep=e
   ·refine gI 6 rfl kg (Fh (nP ro ep fr tg rd A c l 3 qu e pe x 1 ah3 ah4 _ (St.rd 7 tX rfl) hb (St.iG (xs:=[iV 1]) 0 tX rfl rfl rfl) (St.iG (xs:=[.func (.func 170) #[] #[]]) 1 tX rfl rfl rfl)) hfit) ?_;rintro _ aC7 ⟨rfl,apZ⟩;refine ⟨_,rfl,?_⟩;have ahY:=tX.on apZ;iterate 4 refine aF ?_
    refine aS 11 ?_;refine sn 11 rfl 3 ahY aC ?_;intro aC8 avj;iterate 3 refine aF ?_
    iterate 12 refine zQ ?_
    have wu:=avj.nil 75 6;iterate 3 refine zQ ?_
    refine dB (news:=(l).flatMap Ev.cells) (xs':=(l).flatMap Ev.cells) 0 wu (wn rfl) rfl rfl rfl rfl rfl rfl (St.rd 8 wu rfl) Tryz.underlying40 lN rfl (by decide) (dF _) (by simp only [maxLen];omega) (by omega) (rfl) ?_;intro avk c167 ahR aza azb Io;refine zQ ?_;refine lQ 4 Io qV ?_;intro ace Ii;iterate 5 refine zQ ?_
    refine sa 5 Ii aC ?_;intro ama JX;iterate 5 refine zQ ?_
    have Wn:=JX.aR [8,7,6,5,4,3,2,1];rw [iq iQ kF (by dsimp only;omega) (by rw [qx,if_neg (fun h=>h hfit)];rfl),qx,if_neg (fun h=>h hfit)];rw [Nat.zero_add] at Wn⊢;exact ⟨avk,c167,(cO (Wn.own 0 rfl)).1,rfl,Wn.aZ 0 rfl⟩
   refine gI 6 rfl kg (Ki (nP ro ep fr tg rd A c l 3 qu e pe x 1 ah3 ah4 _ (St.rd 7 tX rfl) hb (St.iG (xs:=[iV 1]) 0 tX rfl rfl rfl) (St.iG (xs:=[.func (.func 170) #[] #[]]) 1 tX rfl rfl rfl)) hfit) ?_;rintro _ atN ⟨rfl,ap0⟩;refine ⟨_,rfl,?_⟩;have Rc:=tX.on ap0;iterate 4 refine aF ?_
   refine aS 11 ?_;refine sn 11 rfl 3 Rc aC ?_;intro atA ahw;iterate 3 refine aF ?_
   iterate 11 refine zQ ?_
   refine vv gB ?_;refine sa 4 ahw aC ?_;intro aC9 avl;iterate 6 refine zQ ?_
   have ah5:=avl.aR [7,6,5,4,3,2,1,0];rw [mV iQ kF (by rw [qx,if_pos hfit];decide)];exact ⟨none,0,Nat.le_refl 0,rfl,aJ ah5⟩
  iterate 6 refine zQ ?_
  refine vv gB ?_;refine zQ ?_;refine sa 0 gH aC ?_;intro aDa avm;iterate 6 refine zQ ?_
  have M5:=avm.aR [3,2,1,0];rw [qw iQ kF];exact ⟨none,0,Nat.le_refl 0,rfl,aJ M5⟩
 iterate 6 refine zQ ?_
 refine vv gB ?_;refine zQ ?_;refine sa 0 jQ aC ?_;intro aDb avn;iterate 6 refine zQ ?_
 have M7:=avn.aR [3,2,1,0];rw [qp iQ];exact ⟨none,0,Nat.le_refl 0,rfl,aJ M7⟩
theorem abg (ro ep fr tg rd:Int) (A:Option Addr) (c:Nat) (l:List Ev) (qu e pe:Int) (x:Ev) (hlc:l.length≤c) (w:World) (h:Rd w w.heap.size 6 A l.length (bg l)) (hb:l.length*48≤reachBytes):
    Calls Tryz.prog 112 #[.agg #[iV ro,iV ep,iV fr,iV tg,iV rd,.slice A l.length c],.agg #[iV 4,iV qu,iV e,iV pe,iV x.kind,iV x.producer,iV x.id,iV x.body,iV x.aL,iV x.hno]] w (mg w (dN ⟨ro,ep,fr,tg,rd,l⟩ ⟨4,qu,e,pe,x⟩)):=by
 have S:=(St.start w).bH h;have hb2:=hb;unfold reachBytes at hb2;obtain ⟨R,hR⟩: ∃ R,jo ⟨ro,ep,fr,tg,rd,l⟩ ⟨4,qu,e,pe,x⟩=R:=⟨_,rfl⟩;have hM:=hR;rw [akR] at hM
 try dsimp only at hM
 have Mv:R.1.evs.length≤l.length+1:=by rw [←hR];exact sU
 refine fE 54 Tryz.func112 ?_;refine cw [0,1] ?_;iterate 2 refine zQ ?_
 refine gD S ?_;intro b1 w2 S3;refine gD S3 ?_;intro b4 w5 S6;refine eU S6 dK ?_;intro b7 w8 S9;iterate 7 refine zQ ?_
 refine cab lG S9 (cK ro ep fr tg rd A c l _ (St.rd 3 S9 rfl) (by omega)) ?_;intro Ma jQ;iterate 6 refine zQ ?_
 by_cases iQ:au ⟨ro,ep,fr,tg,rd,l⟩=0
 ·have hln:=dY (dJ iQ).2;dsimp only at hln;iterate 10 refine zQ ?_
  refine cab zR jQ (gu ⟨4,qu,e,pe,x⟩ _) ?_;intro FT gH;iterate 6 refine zQ ?_
  by_cases kF:aP ⟨4,qu,e,pe,x⟩=0
  ·have hrz:=qo kF;dsimp only at hrz;iterate 11 refine zQ ?_
   by_cases h18:ro=2
   ·iterate 16 refine zQ ?_
    refine vv gB ?_;refine sa 0 gH aC ?_;intro zJ kr;iterate 6 refine zQ ?_
    have qP:=kr.aR [3,2,1,0];rw [mU iQ kF (by dsimp only;omega)];exact ⟨none,0,Nat.le_refl 0,rfl,aJ qP⟩
   iterate 4 refine zQ ?_
   refine qB ED (Hg 4 (by decide) _) ?_;rintro _ Qs ⟨rfl,za⟩;refine ⟨_,rfl,?_⟩;have mE:=gH.on za;iterate 11 refine zQ ?_
   refine jU (X:=Nat×(Option Addr)×Nat×Nat) (fun xv=>[(4,pV b7 0),(5,iV 0),(8,pV xv.1 0),(9,iV R.2)]) (fun xv wr=>St w.heap.size w wr [.blk xv.1 #[iV R.1.role,iV R.1.ep,iV R.1.fr,iV R.1.tg,iV R.1.rd,.slice xv.2.1 R.1.evs.length xv.2.2.1] 42,.bG 6 xv.2.1 R.1.evs.length ((R.1.evs).flatMap Ev.cells),.loc xv.2.2.2 (iY Tryz.prog 3 (fun y=>if y=4 then some (.func (.func 171) #[] #[]) else none) 7),.blk b7 #[iV 0,iV 0,iV 0,iV 0,iV 0,.slice none 0 0] 42,.blk b4 #[iV 4,iV qu,iV e,iV pe,iV x.kind,iV x.producer,iV x.id,iV x.body,iV x.aL,iV x.hno] 205,.blk b1 #[iV ro,iV ep,iV fr,iV tg,iV rd,.slice A l.length c] 42,.rd 6 A l.length ((l).flatMap Ev.cells)]) ?_ ?_
   ·have iX:=mE.drew;refine aN 13 iX [] ?_;iterate 4 refine aF ?_
    refine dR (n:=8) (r:=0) (s:=10) (by kernel_rfl) ?_ ?_
    ·refine iH 0 rfl rZ (Og _) ?_;rintro _ Zx ⟨m30,rfl,T33⟩;refine ⟨_,rfl,?_⟩;have pE:=iX.ext T33 rfl;refine aF ?_;refine dR (n:=7) (r:=3) (s:=10) (by kernel_rfl) ?_ ?_
     ·refine dW (i:=3) rfl rfl (v:= .func (.func 171) #[] #[]) (wn rfl) rfl rfl (dZ 0 pE rfl rfl rfl rfl Tryz.underlying3 Tryz.underlying240 (Tryz.zeroValue239 _) (by decide) rfl) ?_;refine aF ?_;refine dR (n:=6) (r:=6) (s:=10) (by kernel_rfl) ?_ ?_
      ·have HC:=uL ro ep fr tg rd A c l 4 qu e pe x _ (St.rd 4 pE rfl) hb;rw [hM] at HC;refine gI 6 rfl QY (HC) ?_;rintro _ NQ ⟨A34,c35,azc,rfl,T39⟩;refine ⟨_,rfl,?_⟩;have oG:=pE.ext T39 rfl;clear HC;iterate 4 refine aF ?_
       refine aS 10 ?_;refine jk 10 rfl oG dK ?_;intro b43 L9 mW;refine aF ?_;refine aS 11 ?_;refine sn 11 rfl 0 mW aC ?_;intro UJ uy;iterate 3 refine aF ?_
       refine bJ (b43,A34,c35,m30) ?_ ⟨rfl,rfl,rfl,rfl,trivial⟩;exact uy
      refine jk 10 rfl pE dK ?_;intro IZ Qw sw;refine aF ?_;refine aS 6 ?_;have HC:=uL ro ep fr tg rd A c l 4 qu e pe x _ (St.rd 5 sw rfl) hb;rw [hM] at HC;refine gI 6 rfl QY (HC) ?_;rintro _ Zv ⟨A52,c53,azd,rfl,T57⟩;refine ⟨_,rfl,?_⟩;have yT:=sw.ext T57 rfl;clear HC;iterate 4 refine aF ?_
      refine aS 11 ?_;refine sn 11 rfl 1 yT aC ?_;intro w61 FV;iterate 3 refine aF ?_
      have S64:St w.heap.size w w61 [_,_,_,_,_,_,_]:=FV.re [1,0,2,3,4,5,6] (by decide);refine bJ (IZ,A52,c53,m30) ?_ ⟨rfl,rfl,rfl,rfl,trivial⟩;exact S64
     refine jk 10 rfl pE dK ?_;intro b65 NP oN;refine aF ?_;refine aS 3 ?_;refine dW (i:=3) rfl rfl (v:= .func (.func 171) #[] #[]) (wn rfl) rfl rfl (dZ 1 oN rfl rfl rfl rfl Tryz.underlying3 Tryz.underlying240 (Tryz.zeroValue239 _) (by decide) rfl) ?_;refine aF ?_;refine aS 6 ?_;have HC:=uL ro ep fr tg rd A c l 4 qu e pe x _ (St.rd 5 oN rfl) hb;rw [hM] at HC;refine gI 6 rfl QY (HC) ?_;rintro _ w71 ⟨A68,c69,aze,rfl,T73⟩;refine ⟨_,rfl,?_⟩;have Cz:=oN.ext T73 rfl;clear HC;iterate 4 refine aF ?_
     refine aS 11 ?_;refine sn 11 rfl 1 Cz aC ?_;intro UF Bg;iterate 3 refine aF ?_
     have xG:St w.heap.size w UF [_,_,_,_,_,_,_]:=Bg.re [1,0,2,3,4,5,6] (by decide);refine bJ (b65,A68,c69,m30) ?_ ⟨rfl,rfl,rfl,rfl,trivial⟩;exact xG
    refine jk 10 rfl iX dK ?_;intro b81 w82 uj;refine aF ?_;refine aS 0 ?_;refine iH 0 rfl rZ (Og _) ?_;rintro _ Qu ⟨m84,rfl,T87⟩;refine ⟨_,rfl,?_⟩;have uh:=uj.ext T87 rfl;refine aF ?_;refine aS 3 ?_;refine dW (i:=3) rfl rfl (v:= .func (.func 171) #[] #[]) (wn rfl) rfl rfl (dZ 0 uh rfl rfl rfl rfl Tryz.underlying3 Tryz.underlying240 (Tryz.zeroValue239 _) (by decide) rfl) ?_;refine aF ?_;refine aS 6 ?_;have HC:=uL ro ep fr tg rd A c l 4 qu e pe x _ (St.rd 5 uh rfl) hb;rw [hM] at HC;refine gI 6 rfl QY (HC) ?_;rintro _ Zz ⟨A88,c89,agI,rfl,T93⟩;refine ⟨_,rfl,?_⟩;have vI:=uh.ext T93 rfl;clear HC;iterate 4 refine aF ?_
    refine aS 11 ?_;refine sn 11 rfl 2 vI aC ?_;intro w97 Aw;iterate 3 refine aF ?_
    have oJ:St w.heap.size w w97 [_,_,_,_,_,_,_]:=Aw.re [2,0,1,3,4,5,6] (by decide);refine bJ (b81,A88,c89,m84) ?_ ⟨rfl,rfl,rfl,rfl,trivial⟩;exact oJ
   rintro ⟨ahW,ah6,ah7,aDc⟩ anr xL
   try dsimp only at xL
   refine bq (l':=[(4,pV b7 0),(5,iV 0),(8,pV ahW 0),(9,iV R.2)]) ⟨rfl,rfl,rfl,rfl,trivial⟩ (aW (aW (aO (vm ?_))));by_cases anv:R.2=0
   ·iterate 7 refine zQ ?_
    have rC:=xL.nil 75 6;iterate 3 refine zQ ?_
    refine dB (news:=(R.1.evs).flatMap Ev.cells) (xs':=(R.1.evs).flatMap Ev.cells) 0 rC (wn rfl) rfl rfl rfl rfl rfl rfl (St.bG 2 rC rfl) Tryz.underlying40 lN rfl (by decide) (dF _) (by simp only [maxLen];omega) (by omega) (rfl) ?_;intro Kj Nh Q7 hc113 azf sH;refine zQ ?_;refine lQ 1 sH qV ?_;intro ah8 uG;iterate 5 refine zQ ?_
    refine sa 4 uG aC ?_;intro W9 uI;iterate 5 refine zQ ?_
    have kX:=uI.aR [7,6,5,4,3,2,1];rw [iq iQ kF (by dsimp only;omega) (by rw [hR];exact anv),hR];rw [Nat.zero_add] at kX⊢;exact ⟨Kj,Nh,(cO (kX.own 0 rfl)).1,rfl,kX.aZ 0 rfl⟩
   iterate 6 refine zQ ?_
   refine vv gB ?_;refine sa 3 xL aC ?_;intro ahs tV;iterate 6 refine zQ ?_
   have zZ:=tV.aR [6,5,4,3,2,1,0];rw [mV iQ kF (by rw [hR];exact anv)];exact ⟨none,0,Nat.le_refl 0,rfl,aJ zZ⟩
  iterate 6 refine zQ ?_
  refine vv gB ?_;refine zQ ?_;refine sa 0 gH aC ?_;intro avo Kk;iterate 6 refine zQ ?_
  have zY:=Kk.aR [3,2,1,0];rw [qw iQ kF];exact ⟨none,0,Nat.le_refl 0,rfl,aJ zY⟩
 iterate 6 refine zQ ?_
 refine vv gB ?_;refine zQ ?_;refine sa 0 jQ aC ?_;intro ahS Ig;iterate 6 refine zQ ?_
 have nM:=Ig.aR [3,2,1,0];rw [qp iQ];exact ⟨none,0,Nat.le_refl 0,rfl,aJ nM⟩
theorem abh (ro ep fr tg rd:Int) (A:Option Addr) (c:Nat) (l:List Ev) (qu e pe:Int) (x:Ev) (hlc:l.length≤c) (w:World) (h:Rd w w.heap.size 6 A l.length (bg l)) (hb:l.length*48≤reachBytes):
    Calls Tryz.prog 112 #[.agg #[iV ro,iV ep,iV fr,iV tg,iV rd,.slice A l.length c],.agg #[iV 5,iV qu,iV e,iV pe,iV x.kind,iV x.producer,iV x.id,iV x.body,iV x.aL,iV x.hno]] w (mg w (dN ⟨ro,ep,fr,tg,rd,l⟩ ⟨5,qu,e,pe,x⟩)):=by
 have S:=(St.start w).bH h;have hb2:=hb;unfold reachBytes at hb2;obtain ⟨R,hR⟩: ∃ R,jo ⟨ro,ep,fr,tg,rd,l⟩ ⟨5,qu,e,pe,x⟩=R:=⟨_,rfl⟩;have hM:=hR;rw [ZP] at hM
 try dsimp only at hM
 have Mv:R.1.evs.length≤l.length+1:=by rw [←hR];exact sU
 refine fE 54 Tryz.func112 ?_;refine cw [0,1] ?_;iterate 2 refine zQ ?_
 refine gD S ?_;intro b1 w2 S3;refine gD S3 ?_;intro b4 w5 S6;refine eU S6 dK ?_;intro b7 w8 S9;iterate 7 refine zQ ?_
 refine cab lG S9 (cK ro ep fr tg rd A c l _ (St.rd 3 S9 rfl) (by omega)) ?_;intro Ma jQ;iterate 6 refine zQ ?_
 by_cases iQ:au ⟨ro,ep,fr,tg,rd,l⟩=0
 ·have hln:=dY (dJ iQ).2;dsimp only at hln;iterate 10 refine zQ ?_
  refine cab zR jQ (gu ⟨5,qu,e,pe,x⟩ _) ?_;intro FT gH;iterate 6 refine zQ ?_
  by_cases kF:aP ⟨5,qu,e,pe,x⟩=0
  ·have hrz:=qo kF;dsimp only at hrz;iterate 11 refine zQ ?_
   by_cases h18:ro=2
   ·iterate 16 refine zQ ?_
    refine vv gB ?_;refine sa 0 gH aC ?_;intro zJ kr;iterate 6 refine zQ ?_
    have qP:=kr.aR [3,2,1,0];rw [mU iQ kF (by dsimp only;omega)];exact ⟨none,0,Nat.le_refl 0,rfl,aJ qP⟩
   iterate 4 refine zQ ?_
   refine qB ED (tJ 5 (by decide) _) ?_;rintro _ Qs ⟨rfl,za⟩;refine ⟨_,rfl,?_⟩;have mE:=gH.on za;iterate 3 refine zQ ?_
   by_cases qO:pe=0
   ·iterate 8 refine zQ ?_
    refine jU (X:=Nat×(Option Addr)×Nat×Nat×Nat×Nat) (fun xv=>[(4,pV b7 0),(5,iV 0),(8,pV xv.1 0),(9,iV R.2)]) (fun xv wr=>St w.heap.size w wr [.blk xv.1 #[iV R.1.role,iV R.1.ep,iV R.1.fr,iV R.1.tg,iV R.1.rd,.slice xv.2.1 R.1.evs.length xv.2.2.1] 42,.bG 6 xv.2.1 R.1.evs.length ((R.1.evs).flatMap Ev.cells),.blk xv.2.2.2.1 #[iV 4] 3,.blk xv.2.2.2.2.1 #[.func (.func 169) #[] #[]] 239,.loc xv.2.2.2.2.2 (iY Tryz.prog 3 (fun y=>if y=5 then some (.func (.func 183) #[] #[pV xv.2.2.2.1 0,pV xv.2.2.2.2.1 0]) else none) 7),.blk b7 #[iV 0,iV 0,iV 0,iV 0,iV 0,.slice none 0 0] 42,.blk b4 #[iV 5,iV qu,iV e,iV pe,iV x.kind,iV x.producer,iV x.id,iV x.body,iV x.aL,iV x.hno] 205,.blk b1 #[iV ro,iV ep,iV fr,iV tg,iV rd,.slice A l.length c] 42,.rd 6 A l.length ((l).flatMap Ev.cells)]) ?_ ?_
    ·have kD:=mE.drew;refine aN 13 kD [] ?_;iterate 4 refine aF ?_
     refine dR (n:=8) (r:=0) (s:=10) (by kernel_rfl) ?_ ?_
     ·refine iH 0 rfl rZ (Oh _) ?_;rintro _ WX ⟨DC,rQ,rR,rfl,T36⟩;refine ⟨_,rfl,?_⟩;have kC:=kD.ext T36 rfl;refine aF ?_;refine dR (n:=7) (r:=3) (s:=10) (by kernel_rfl) ?_ ?_
      ·refine dW (i:=3) rfl rfl (v:= .func (.func 183) #[] #[pV rQ 0,pV rR 0]) (wn rfl) rfl rfl (dZ 2 kC rfl rfl rfl rfl Tryz.underlying3 Tryz.underlying240 (Tryz.zeroValue239 _) (by decide) rfl) ?_;refine aF ?_;refine dR (n:=6) (r:=6) (s:=10) (by kernel_rfl) ?_ ?_
       ·have HC:=qm ro ep fr tg rd A c l 5 qu e pe x 4 rQ rR (by omega) _ (St.rd 6 kC rfl) hb (St.iG (xs:=[iV 4]) 0 kC rfl rfl rfl) (St.iG (xs:=[.func (.func 169) #[] #[]]) 1 kC rfl rfl rfl);rw [hM] at HC;refine gI 6 rfl kg (HC) ?_;rintro _ UH ⟨Ml,Mq,YO,rfl,T42⟩;refine ⟨_,rfl,?_⟩;have xU:=kC.ext T42 rfl;clear HC;iterate 4 refine aF ?_
        refine aS 10 ?_;refine jk 10 rfl xU dK ?_;intro Uy w47 qX;refine aF ?_;refine aS 11 ?_;refine sn 11 rfl 0 qX aC ?_;intro Qq rO;iterate 3 refine aF ?_
        refine bJ (Uy,Ml,Mq,rQ,rR,DC) ?_ ⟨rfl,rfl,rfl,rfl,trivial⟩;exact rO
       refine jk 10 rfl kC dK ?_;intro ZC Wu jw;refine aF ?_;refine aS 6 ?_;have HC:=qm ro ep fr tg rd A c l 5 qu e pe x 4 rQ rR (by omega) _ (St.rd 7 jw rfl) hb (St.iG (xs:=[iV 4]) 1 jw rfl rfl rfl) (St.iG (xs:=[.func (.func 169) #[] #[]]) 2 jw rfl rfl rfl);rw [hM] at HC;refine gI 6 rfl kg (HC) ?_;rintro _ ZG ⟨Qy,ZM,YP,rfl,T60⟩;refine ⟨_,rfl,?_⟩;have uQ:=jw.ext T60 rfl;clear HC;iterate 4 refine aF ?_
       refine aS 11 ?_;refine sn 11 rfl 1 uQ aC ?_;intro GZ xV;iterate 3 refine aF ?_
       have oN:St w.heap.size w GZ [_,_,_,_,_,_,_,_,_]:=xV.re [1,0,2,3,4,5,6,7,8] (by decide);refine bJ (ZC,Qy,ZM,rQ,rR,DC) ?_ ⟨rfl,rfl,rfl,rfl,trivial⟩;exact oN
      refine jk 10 rfl kC dK ?_;intro b68 ZN lu;refine aF ?_;refine aS 3 ?_;refine dW (i:=3) rfl rfl (v:= .func (.func 183) #[] #[pV rQ 0,pV rR 0]) (wn rfl) rfl rfl (dZ 3 lu rfl rfl rfl rfl Tryz.underlying3 Tryz.underlying240 (Tryz.zeroValue239 _) (by decide) rfl) ?_;refine aF ?_;refine aS 6 ?_;have HC:=qm ro ep fr tg rd A c l 5 qu e pe x 4 rQ rR (by omega) _ (St.rd 7 lu rfl) hb (St.iG (xs:=[iV 4]) 1 lu rfl rfl rfl) (St.iG (xs:=[.func (.func 169) #[] #[]]) 2 lu rfl rfl rfl);rw [hM] at HC;refine gI 6 rfl kg (HC) ?_;rintro _ UC ⟨A71,c72,YQ,rfl,T76⟩;refine ⟨_,rfl,?_⟩;have vH:=lu.ext T76 rfl;clear HC;iterate 4 refine aF ?_
      refine aS 11 ?_;refine sn 11 rfl 1 vH aC ?_;intro Mc pF;iterate 3 refine aF ?_
      have uj:St w.heap.size w Mc [_,_,_,_,_,_,_,_,_]:=pF.re [1,0,2,3,4,5,6,7,8] (by decide);refine bJ (b68,A71,c72,rQ,rR,DC) ?_ ⟨rfl,rfl,rfl,rfl,trivial⟩;exact uj
     refine jk 10 rfl kD dK ?_;intro Zw Qu uh;refine aF ?_;refine aS 0 ?_;refine iH 0 rfl rZ (Oh _) ?_;rintro _ VQ ⟨m87,IX,IY,rfl,Xd⟩;refine ⟨_,rfl,?_⟩;have rP:=uh.ext Xd rfl;refine aF ?_;refine aS 3 ?_;refine dW (i:=3) rfl rfl (v:= .func (.func 183) #[] #[pV IX 0,pV IY 0]) (wn rfl) rfl rfl (dZ 2 rP rfl rfl rfl rfl Tryz.underlying3 Tryz.underlying240 (Tryz.zeroValue239 _) (by decide) rfl) ?_;refine aF ?_;refine aS 6 ?_;have HC:=qm ro ep fr tg rd A c l 5 qu e pe x 4 IX IY (by omega) _ (St.rd 7 rP rfl) hb (St.iG (xs:=[iV 4]) 0 rP rfl rfl rfl) (St.iG (xs:=[.func (.func 169) #[] #[]]) 1 rP rfl rfl rfl);rw [hM] at HC;refine gI 6 rfl kg (HC) ?_;rintro _ Qv ⟨Mw,Mx,YR,rfl,T98⟩;refine ⟨_,rfl,?_⟩;have uP:=rP.ext T98 rfl;clear HC;iterate 4 refine aF ?_
     refine aS 11 ?_;refine sn 11 rfl 4 uP aC ?_;intro Ip l9;iterate 3 refine aF ?_
     have lD:St w.heap.size w Ip [_,_,_,_,_,_,_,_,_]:=l9.re [4,0,1,2,3,5,6,7,8] (by decide);refine bJ (Zw,Mw,Mx,IX,IY,m87) ?_ ⟨rfl,rfl,rfl,rfl,trivial⟩;exact lD
    rintro ⟨Dt,Iq,Ir,ah0,ah1,ah2⟩ Kg jg
    try dsimp only at jg
    refine bq (l':=[(4,pV b7 0),(5,iV 0),(8,pV Dt 0),(9,iV R.2)]) ⟨rfl,rfl,rfl,rfl,trivial⟩ (aW (aW (aO (vm ?_))));by_cases sI:R.2=0
    ·iterate 7 refine zQ ?_
     have ko:=jg.nil 75 6;iterate 3 refine zQ ?_
     refine dB (news:=(R.1.evs).flatMap Ev.cells) (xs':=(R.1.evs).flatMap Ev.cells) 0 ko (wn rfl) rfl rfl rfl rfl rfl rfl (St.bG 2 ko rfl) Tryz.underlying40 lN rfl (by decide) (dF _) (by simp only [maxLen];omega) (by omega) (rfl) ?_;intro Ng c117 JQ YS YT kX;refine zQ ?_;refine lQ 1 kX qV ?_;intro MX pz;iterate 5 refine zQ ?_
     refine sa 6 pz aC ?_;intro WJ zY;iterate 5 refine zQ ?_
     have kH:=zY.aR [9,8,7,6,5,4,3,2,1];rw [iq iQ kF (by dsimp only;omega) (by rw [hR];exact sI),hR];rw [Nat.zero_add] at kH⊢;exact ⟨Ng,c117,(cO (kH.own 0 rfl)).1,rfl,kH.aZ 0 rfl⟩
    iterate 6 refine zQ ?_
    refine vv gB ?_;refine sa 5 jg aC ?_;intro Ie nM;iterate 6 refine zQ ?_
    have rD:=nM.aR [8,7,6,5,4,3,2,1,0];rw [mV iQ kF (by rw [hR];exact sI)];exact ⟨none,0,Nat.le_refl 0,rfl,aJ rD⟩
   iterate 8 refine zQ ?_
   refine vv gB ?_;refine sa 0 mE aC ?_;intro MZ oK;iterate 6 refine zQ ?_
   have qE:=oK.aR [3,2,1,0];rw [mU iQ kF (by dsimp only;omega)];exact ⟨none,0,Nat.le_refl 0,rfl,aJ qE⟩
  iterate 6 refine zQ ?_
  refine vv gB ?_;refine zQ ?_;refine sa 0 gH aC ?_;intro Ih pI;iterate 6 refine zQ ?_
  have xO:=pI.aR [3,2,1,0];rw [qw iQ kF];exact ⟨none,0,Nat.le_refl 0,rfl,aJ xO⟩
 iterate 6 refine zQ ?_
 refine vv gB ?_;refine zQ ?_;refine sa 0 jQ aC ?_;intro Kh uJ;iterate 6 refine zQ ?_
 have qF:=uJ.aR [3,2,1,0];rw [qp iQ];exact ⟨none,0,Nat.le_refl 0,rfl,aJ qF⟩
theorem abj (ro ep fr tg rd:Int) (A:Option Addr) (c:Nat) (l:List Ev) (qu e pe:Int) (x:Ev) (hlc:l.length≤c) (w:World) (h:Rd w w.heap.size 6 A l.length (bg l)) (hb:l.length*48≤reachBytes):
    Calls Tryz.prog 112 #[.agg #[iV ro,iV ep,iV fr,iV tg,iV rd,.slice A l.length c],.agg #[iV 6,iV qu,iV e,iV pe,iV x.kind,iV x.producer,iV x.id,iV x.body,iV x.aL,iV x.hno]] w (mg w (dN ⟨ro,ep,fr,tg,rd,l⟩ ⟨6,qu,e,pe,x⟩)):=by
 have S:=(St.start w).bH h;have hb2:=hb;unfold reachBytes at hb2;obtain ⟨R,hR⟩: ∃ R,jo ⟨ro,ep,fr,tg,rd,l⟩ ⟨6,qu,e,pe,x⟩=R:=⟨_,rfl⟩;have hM:=hR;rw [akS] at hM
 try dsimp only at hM
 have Mv:R.1.evs.length≤l.length+1:=by rw [←hR];exact sU
 refine fE 54 Tryz.func112 ?_;refine cw [0,1] ?_;iterate 2 refine zQ ?_
 refine gD S ?_;intro b1 w2 S3;refine gD S3 ?_;intro b4 w5 S6;refine eU S6 dK ?_;intro b7 w8 S9;iterate 7 refine zQ ?_
 refine cab lG S9 (cK ro ep fr tg rd A c l _ (St.rd 3 S9 rfl) (by omega)) ?_;intro Ma jQ;iterate 6 refine zQ ?_
 by_cases iQ:au ⟨ro,ep,fr,tg,rd,l⟩=0
 ·have hln:=dY (dJ iQ).2;dsimp only at hln;iterate 10 refine zQ ?_
  refine cab zR jQ (gu ⟨6,qu,e,pe,x⟩ _) ?_;intro FT gH;iterate 6 refine zQ ?_
  by_cases kF:aP ⟨6,qu,e,pe,x⟩=0
  ·have hrz:=qo kF;dsimp only at hrz;iterate 11 refine zQ ?_
   by_cases h18:ro=2
   ·iterate 16 refine zQ ?_
    refine vv gB ?_;refine sa 0 gH aC ?_;intro zJ kr;iterate 6 refine zQ ?_
    have qP:=kr.aR [3,2,1,0];rw [mU iQ kF (by dsimp only;omega)];exact ⟨none,0,Nat.le_refl 0,rfl,aJ qP⟩
   iterate 4 refine zQ ?_
   refine qB ED (tJ 6 (by decide) _) ?_;rintro _ Qs ⟨rfl,za⟩;refine ⟨_,rfl,?_⟩;have mE:=gH.on za;iterate 3 refine zQ ?_
   by_cases qO:pe=0
   ·iterate 8 refine zQ ?_
    refine jU (X:=Nat×(Option Addr)×Nat×Nat×Nat×Nat) (fun xv=>[(4,pV b7 0),(5,iV 0),(8,pV xv.1 0),(9,iV R.2)]) (fun xv wr=>St w.heap.size w wr [.blk xv.1 #[iV R.1.role,iV R.1.ep,iV R.1.fr,iV R.1.tg,iV R.1.rd,.slice xv.2.1 R.1.evs.length xv.2.2.1] 42,.bG 6 xv.2.1 R.1.evs.length ((R.1.evs).flatMap Ev.cells),.blk xv.2.2.2.1 #[iV 4] 3,.blk xv.2.2.2.2.1 #[.func (.func 172) #[] #[]] 239,.loc xv.2.2.2.2.2 (iY Tryz.prog 3 (fun y=>if y=6 then some (.func (.func 183) #[] #[pV xv.2.2.2.1 0,pV xv.2.2.2.2.1 0]) else none) 7),.blk b7 #[iV 0,iV 0,iV 0,iV 0,iV 0,.slice none 0 0] 42,.blk b4 #[iV 6,iV qu,iV e,iV pe,iV x.kind,iV x.producer,iV x.id,iV x.body,iV x.aL,iV x.hno] 205,.blk b1 #[iV ro,iV ep,iV fr,iV tg,iV rd,.slice A l.length c] 42,.rd 6 A l.length ((l).flatMap Ev.cells)]) ?_ ?_
    ·have kD:=mE.drew;refine aN 13 kD [] ?_;iterate 4 refine aF ?_
     refine dR (n:=8) (r:=0) (s:=10) (by kernel_rfl) ?_ ?_
     ·refine iH 0 rfl rZ (Oi _) ?_;rintro _ WX ⟨DC,rQ,rR,rfl,T36⟩;refine ⟨_,rfl,?_⟩;have kC:=kD.ext T36 rfl;refine aF ?_;refine dR (n:=7) (r:=3) (s:=10) (by kernel_rfl) ?_ ?_
      ·refine dW (i:=3) rfl rfl (v:= .func (.func 183) #[] #[pV rQ 0,pV rR 0]) (wn rfl) rfl rfl (dZ 2 kC rfl rfl rfl rfl Tryz.underlying3 Tryz.underlying240 (Tryz.zeroValue239 _) (by decide) rfl) ?_;refine aF ?_;refine dR (n:=6) (r:=6) (s:=10) (by kernel_rfl) ?_ ?_
       ·have HC:=Ca ro ep fr tg rd A c l 6 qu e pe x 4 rQ rR hlc _ (St.rd 6 kC rfl) hb (St.iG (xs:=[iV 4]) 0 kC rfl rfl rfl) (St.iG (xs:=[.func (.func 172) #[] #[]]) 1 kC rfl rfl rfl);rw [hM] at HC;refine gI 6 rfl kg (HC) ?_;rintro _ UH ⟨Ml,Mq,YO,rfl,T42⟩;refine ⟨_,rfl,?_⟩;have xU:=kC.ext T42 rfl;clear HC;iterate 4 refine aF ?_
        refine aS 10 ?_;refine jk 10 rfl xU dK ?_;intro Uy w47 qX;refine aF ?_;refine aS 11 ?_;refine sn 11 rfl 0 qX aC ?_;intro Qq rO;iterate 3 refine aF ?_
        refine bJ (Uy,Ml,Mq,rQ,rR,DC) ?_ ⟨rfl,rfl,rfl,rfl,trivial⟩;exact rO
       refine jk 10 rfl kC dK ?_;intro ZC Wu jw;refine aF ?_;refine aS 6 ?_;have HC:=Ca ro ep fr tg rd A c l 6 qu e pe x 4 rQ rR hlc _ (St.rd 7 jw rfl) hb (St.iG (xs:=[iV 4]) 1 jw rfl rfl rfl) (St.iG (xs:=[.func (.func 172) #[] #[]]) 2 jw rfl rfl rfl);rw [hM] at HC;refine gI 6 rfl kg (HC) ?_;rintro _ ZG ⟨Qy,ZM,YP,rfl,T60⟩;refine ⟨_,rfl,?_⟩;have uQ:=jw.ext T60 rfl;clear HC;iterate 4 refine aF ?_
       refine aS 11 ?_;refine sn 11 rfl 1 uQ aC ?_;intro GZ xV;iterate 3 refine aF ?_
       have oN:St w.heap.size w GZ [_,_,_,_,_,_,_,_,_]:=xV.re [1,0,2,3,4,5,6,7,8] (by decide);refine bJ (ZC,Qy,ZM,rQ,rR,DC) ?_ ⟨rfl,rfl,rfl,rfl,trivial⟩;exact oN
      refine jk 10 rfl kC dK ?_;intro b68 ZN lu;refine aF ?_;refine aS 3 ?_;refine dW (i:=3) rfl rfl (v:= .func (.func 183) #[] #[pV rQ 0,pV rR 0]) (wn rfl) rfl rfl (dZ 3 lu rfl rfl rfl rfl Tryz.underlying3 Tryz.underlying240 (Tryz.zeroValue239 _) (by decide) rfl) ?_;refine aF ?_;refine aS 6 ?_;have HC:=Ca ro ep fr tg rd A c l 6 qu e pe x 4 rQ rR hlc _ (St.rd 7 lu rfl) hb (St.iG (xs:=[iV 4]) 1 lu rfl rfl rfl) (St.iG (xs:=[.func (.func 172) #[] #[]]) 2 lu rfl rfl rfl);rw [hM] at HC;refine gI 6 rfl kg (HC) ?_;rintro _ UC ⟨A71,c72,YQ,rfl,T76⟩;refine ⟨_,rfl,?_⟩;have vH:=lu.ext T76 rfl;clear HC;iterate 4 refine aF ?_
      refine aS 11 ?_;refine sn 11 rfl 1 vH aC ?_;intro Mc pF;iterate 3 refine aF ?_
      have uj:St w.heap.size w Mc [_,_,_,_,_,_,_,_,_]:=pF.re [1,0,2,3,4,5,6,7,8] (by decide);refine bJ (b68,A71,c72,rQ,rR,DC) ?_ ⟨rfl,rfl,rfl,rfl,trivial⟩;exact uj
     refine jk 10 rfl kD dK ?_;intro Zw Qu uh;refine aF ?_;refine aS 0 ?_;refine iH 0 rfl rZ (Oi _) ?_;rintro _ VQ ⟨m87,IX,IY,rfl,Xd⟩;refine ⟨_,rfl,?_⟩;have rP:=uh.ext Xd rfl;refine aF ?_;refine aS 3 ?_;refine dW (i:=3) rfl rfl (v:= .func (.func 183) #[] #[pV IX 0,pV IY 0]) (wn rfl) rfl rfl (dZ 2 rP rfl rfl rfl rfl Tryz.underlying3 Tryz.underlying240 (Tryz.zeroValue239 _) (by decide) rfl) ?_;refine aF ?_;refine aS 6 ?_;have HC:=Ca ro ep fr tg rd A c l 6 qu e pe x 4 IX IY hlc _ (St.rd 7 rP rfl) hb (St.iG (xs:=[iV 4]) 0 rP rfl rfl rfl) (St.iG (xs:=[.func (.func 172) #[] #[]]) 1 rP rfl rfl rfl);rw [hM] at HC;refine gI 6 rfl kg (HC) ?_;rintro _ Qv ⟨Mw,Mx,YR,rfl,T98⟩;refine ⟨_,rfl,?_⟩;have uP:=rP.ext T98 rfl;clear HC;iterate 4 refine aF ?_
     refine aS 11 ?_;refine sn 11 rfl 4 uP aC ?_;intro Ip l9;iterate 3 refine aF ?_
     have lD:St w.heap.size w Ip [_,_,_,_,_,_,_,_,_]:=l9.re [4,0,1,2,3,5,6,7,8] (by decide);refine bJ (Zw,Mw,Mx,IX,IY,m87) ?_ ⟨rfl,rfl,rfl,rfl,trivial⟩;exact lD
    rintro ⟨Dt,Iq,Ir,ah0,ah1,ah2⟩ Kg jg
    try dsimp only at jg
    refine bq (l':=[(4,pV b7 0),(5,iV 0),(8,pV Dt 0),(9,iV R.2)]) ⟨rfl,rfl,rfl,rfl,trivial⟩ (aW (aW (aO (vm ?_))));by_cases sI:R.2=0
    ·iterate 7 refine zQ ?_
     have ko:=jg.nil 75 6;iterate 3 refine zQ ?_
     refine dB (news:=(R.1.evs).flatMap Ev.cells) (xs':=(R.1.evs).flatMap Ev.cells) 0 ko (wn rfl) rfl rfl rfl rfl rfl rfl (St.bG 2 ko rfl) Tryz.underlying40 lN rfl (by decide) (dF _) (by simp only [maxLen];omega) (by omega) (rfl) ?_;intro Ng c117 JQ YS YT kX;refine zQ ?_;refine lQ 1 kX qV ?_;intro MX pz;iterate 5 refine zQ ?_
     refine sa 6 pz aC ?_;intro WJ zY;iterate 5 refine zQ ?_
     have kH:=zY.aR [9,8,7,6,5,4,3,2,1];rw [iq iQ kF (by dsimp only;omega) (by rw [hR];exact sI),hR];rw [Nat.zero_add] at kH⊢;exact ⟨Ng,c117,(cO (kH.own 0 rfl)).1,rfl,kH.aZ 0 rfl⟩
    iterate 6 refine zQ ?_
    refine vv gB ?_;refine sa 5 jg aC ?_;intro Ie nM;iterate 6 refine zQ ?_
    have rD:=nM.aR [8,7,6,5,4,3,2,1,0];rw [mV iQ kF (by rw [hR];exact sI)];exact ⟨none,0,Nat.le_refl 0,rfl,aJ rD⟩
   iterate 8 refine zQ ?_
   refine vv gB ?_;refine sa 0 mE aC ?_;intro MZ oK;iterate 6 refine zQ ?_
   have qE:=oK.aR [3,2,1,0];rw [mU iQ kF (by dsimp only;omega)];exact ⟨none,0,Nat.le_refl 0,rfl,aJ qE⟩
  iterate 6 refine zQ ?_
  refine vv gB ?_;refine zQ ?_;refine sa 0 gH aC ?_;intro Ih pI;iterate 6 refine zQ ?_
  have xO:=pI.aR [3,2,1,0];rw [qw iQ kF];exact ⟨none,0,Nat.le_refl 0,rfl,aJ xO⟩
 iterate 6 refine zQ ?_
 refine vv gB ?_;refine zQ ?_;refine sa 0 jQ aC ?_;intro Kh uJ;iterate 6 refine zQ ?_
 have qF:=uJ.aR [3,2,1,0];rw [qp iQ];exact ⟨none,0,Nat.le_refl 0,rfl,aJ qF⟩
theorem abk (ro ep fr tg rd:Int) (A:Option Addr) (c:Nat) (l:List Ev) (qu e pe:Int) (x:Ev) (hlc:l.length≤c) (w:World) (h:Rd w w.heap.size 6 A l.length (bg l)) (hb:l.length*48≤reachBytes):
    Calls Tryz.prog 112 #[.agg #[iV ro,iV ep,iV fr,iV tg,iV rd,.slice A l.length c],.agg #[iV 7,iV qu,iV e,iV pe,iV x.kind,iV x.producer,iV x.id,iV x.body,iV x.aL,iV x.hno]] w (mg w (dN ⟨ro,ep,fr,tg,rd,l⟩ ⟨7,qu,e,pe,x⟩)):=by
 have S:=(St.start w).bH h;have hb2:=hb;unfold reachBytes at hb2;obtain ⟨R,hR⟩: ∃ R,jo ⟨ro,ep,fr,tg,rd,l⟩ ⟨7,qu,e,pe,x⟩=R:=⟨_,rfl⟩;have hM:=hR;rw [akT] at hM
 try dsimp only at hM
 have Mv:R.1.evs.length≤l.length+1:=by rw [←hR];exact sU
 refine fE 54 Tryz.func112 ?_;refine cw [0,1] ?_;iterate 2 refine zQ ?_
 refine gD S ?_;intro b1 w2 S3;refine gD S3 ?_;intro b4 w5 S6;refine eU S6 dK ?_;intro b7 w8 S9;iterate 7 refine zQ ?_
 refine cab lG S9 (cK ro ep fr tg rd A c l _ (St.rd 3 S9 rfl) (by omega)) ?_;intro Ma jQ;iterate 6 refine zQ ?_
 by_cases iQ:au ⟨ro,ep,fr,tg,rd,l⟩=0
 ·have hln:=dY (dJ iQ).2;dsimp only at hln;iterate 10 refine zQ ?_
  refine cab zR jQ (gu ⟨7,qu,e,pe,x⟩ _) ?_;intro FT gH;iterate 6 refine zQ ?_
  by_cases kF:aP ⟨7,qu,e,pe,x⟩=0
  ·have hrz:=qo kF;dsimp only at hrz;iterate 11 refine zQ ?_
   by_cases h18:ro=2
   ·iterate 16 refine zQ ?_
    refine vv gB ?_;refine sa 0 gH aC ?_;intro zJ kr;iterate 6 refine zQ ?_
    have qP:=kr.aR [3,2,1,0];rw [mU iQ kF (by dsimp only;omega)];exact ⟨none,0,Nat.le_refl 0,rfl,aJ qP⟩
   iterate 4 refine zQ ?_
   refine qB ED (tJ 7 (by decide) _) ?_;rintro _ Qs ⟨rfl,za⟩;refine ⟨_,rfl,?_⟩;have mE:=gH.on za;iterate 3 refine zQ ?_
   by_cases qO:pe=0
   ·iterate 8 refine zQ ?_
    refine jU (X:=Nat×(Option Addr)×Nat×Nat×Nat×Nat) (fun xv=>[(4,pV b7 0),(5,iV 0),(8,pV xv.1 0),(9,iV R.2)]) (fun xv wr=>St w.heap.size w wr [.blk xv.1 #[iV R.1.role,iV R.1.ep,iV R.1.fr,iV R.1.tg,iV R.1.rd,.slice xv.2.1 R.1.evs.length xv.2.2.1] 42,.bG 6 xv.2.1 R.1.evs.length ((R.1.evs).flatMap Ev.cells),.blk xv.2.2.2.1 #[iV 3] 3,.blk xv.2.2.2.2.1 #[.func (.func 173) #[] #[]] 239,.loc xv.2.2.2.2.2 (iY Tryz.prog 3 (fun y=>if y=7 then some (.func (.func 183) #[] #[pV xv.2.2.2.1 0,pV xv.2.2.2.2.1 0]) else none) 7),.blk b7 #[iV 0,iV 0,iV 0,iV 0,iV 0,.slice none 0 0] 42,.blk b4 #[iV 7,iV qu,iV e,iV pe,iV x.kind,iV x.producer,iV x.id,iV x.body,iV x.aL,iV x.hno] 205,.blk b1 #[iV ro,iV ep,iV fr,iV tg,iV rd,.slice A l.length c] 42,.rd 6 A l.length ((l).flatMap Ev.cells)]) ?_ ?_
    ·have kD:=mE.drew;refine aN 13 kD [] ?_;iterate 4 refine aF ?_
     refine dR (n:=8) (r:=0) (s:=10) (by kernel_rfl) ?_ ?_
     ·refine iH 0 rfl rZ (Oj _) ?_;rintro _ WX ⟨DC,rQ,rR,rfl,T36⟩;refine ⟨_,rfl,?_⟩;have kC:=kD.ext T36 rfl;refine aF ?_;refine dR (n:=7) (r:=3) (s:=10) (by kernel_rfl) ?_ ?_
      ·refine dW (i:=3) rfl rfl (v:= .func (.func 183) #[] #[pV rQ 0,pV rR 0]) (wn rfl) rfl rfl (dZ 2 kC rfl rfl rfl rfl Tryz.underlying3 Tryz.underlying240 (Tryz.zeroValue239 _) (by decide) rfl) ?_;refine aF ?_;refine dR (n:=6) (r:=6) (s:=10) (by kernel_rfl) ?_ ?_
       ·have HC:=Cb ro ep fr tg rd A c l 7 qu e pe x 3 rQ rR (by omega) _ (St.rd 6 kC rfl) hb (St.iG (xs:=[iV 3]) 0 kC rfl rfl rfl) (St.iG (xs:=[.func (.func 173) #[] #[]]) 1 kC rfl rfl rfl);rw [hM] at HC;refine gI 6 rfl kg (HC) ?_;rintro _ UH ⟨Ml,Mq,YO,rfl,T42⟩;refine ⟨_,rfl,?_⟩;have xU:=kC.ext T42 rfl;clear HC;iterate 4 refine aF ?_
        refine aS 10 ?_;refine jk 10 rfl xU dK ?_;intro Uy w47 qX;refine aF ?_;refine aS 11 ?_;refine sn 11 rfl 0 qX aC ?_;intro Qq rO;iterate 3 refine aF ?_
        refine bJ (Uy,Ml,Mq,rQ,rR,DC) ?_ ⟨rfl,rfl,rfl,rfl,trivial⟩;exact rO
       refine jk 10 rfl kC dK ?_;intro ZC Wu jw;refine aF ?_;refine aS 6 ?_;have HC:=Cb ro ep fr tg rd A c l 7 qu e pe x 3 rQ rR (by omega) _ (St.rd 7 jw rfl) hb (St.iG (xs:=[iV 3]) 1 jw rfl rfl rfl) (St.iG (xs:=[.func (.func 173) #[] #[]]) 2 jw rfl rfl rfl);rw [hM] at HC;refine gI 6 rfl kg (HC) ?_;rintro _ ZG ⟨Qy,ZM,YP,rfl,T60⟩;refine ⟨_,rfl,?_⟩;have uQ:=jw.ext T60 rfl;clear HC;iterate 4 refine aF ?_
       refine aS 11 ?_;refine sn 11 rfl 1 uQ aC ?_;intro GZ xV;iterate 3 refine aF ?_
       have oN:St w.heap.size w GZ [_,_,_,_,_,_,_,_,_]:=xV.re [1,0,2,3,4,5,6,7,8] (by decide);refine bJ (ZC,Qy,ZM,rQ,rR,DC) ?_ ⟨rfl,rfl,rfl,rfl,trivial⟩;exact oN
      refine jk 10 rfl kC dK ?_;intro b68 ZN lu;refine aF ?_;refine aS 3 ?_;refine dW (i:=3) rfl rfl (v:= .func (.func 183) #[] #[pV rQ 0,pV rR 0]) (wn rfl) rfl rfl (dZ 3 lu rfl rfl rfl rfl Tryz.underlying3 Tryz.underlying240 (Tryz.zeroValue239 _) (by decide) rfl) ?_;refine aF ?_;refine aS 6 ?_;have HC:=Cb ro ep fr tg rd A c l 7 qu e pe x 3 rQ rR (by omega) _ (St.rd 7 lu rfl) hb (St.iG (xs:=[iV 3]) 1 lu rfl rfl rfl) (St.iG (xs:=[.func (.func 173) #[] #[]]) 2 lu rfl rfl rfl);rw [hM] at HC;refine gI 6 rfl kg (HC) ?_;rintro _ UC ⟨A71,c72,YQ,rfl,T76⟩;refine ⟨_,rfl,?_⟩;have vH:=lu.ext T76 rfl;clear HC;iterate 4 refine aF ?_
      refine aS 11 ?_;refine sn 11 rfl 1 vH aC ?_;intro Mc pF;iterate 3 refine aF ?_
      have uj:St w.heap.size w Mc [_,_,_,_,_,_,_,_,_]:=pF.re [1,0,2,3,4,5,6,7,8] (by decide);refine bJ (b68,A71,c72,rQ,rR,DC) ?_ ⟨rfl,rfl,rfl,rfl,trivial⟩;exact uj
     refine jk 10 rfl kD dK ?_;intro Zw Qu uh;refine aF ?_;refine aS 0 ?_;refine iH 0 rfl rZ (Oj _) ?_;rintro _ VQ ⟨m87,IX,IY,rfl,Xd⟩;refine ⟨_,rfl,?_⟩;have rP:=uh.ext Xd rfl;refine aF ?_;refine aS 3 ?_;refine dW (i:=3) rfl rfl (v:= .func (.func 183) #[] #[pV IX 0,pV IY 0]) (wn rfl) rfl rfl (dZ 2 rP rfl rfl rfl rfl Tryz.underlying3 Tryz.underlying240 (Tryz.zeroValue239 _) (by decide) rfl) ?_;refine aF ?_;refine aS 6 ?_;have HC:=Cb ro ep fr tg rd A c l 7 qu e pe x 3 IX IY (by omega) _ (St.rd 7 rP rfl) hb (St.iG (xs:=[iV 3]) 0 rP rfl rfl rfl) (St.iG (xs:=[.func (.func 173) #[] #[]]) 1 rP rfl rfl rfl);rw [hM] at HC;refine gI 6 rfl kg (HC) ?_;rintro _ Qv ⟨Mw,Mx,YR,rfl,T98⟩;refine ⟨_,rfl,?_⟩;have uP:=rP.ext T98 rfl;clear HC;iterate 4 refine aF ?_
     refine aS 11 ?_;refine sn 11 rfl 4 uP aC ?_;intro Ip l9;iterate 3 refine aF ?_
     have lD:St w.heap.size w Ip [_,_,_,_,_,_,_,_,_]:=l9.re [4,0,1,2,3,5,6,7,8] (by decide);refine bJ (Zw,Mw,Mx,IX,IY,m87) ?_ ⟨rfl,rfl,rfl,rfl,trivial⟩;exact lD
    rintro ⟨Dt,Iq,Ir,ah0,ah1,ah2⟩ Kg jg
    try dsimp only at jg
    refine bq (l':=[(4,pV b7 0),(5,iV 0),(8,pV Dt 0),(9,iV R.2)]) ⟨rfl,rfl,rfl,rfl,trivial⟩ (aW (aW (aO (vm ?_))));by_cases sI:R.2=0
    ·iterate 7 refine zQ ?_
     have ko:=jg.nil 75 6;iterate 3 refine zQ ?_
     refine dB (news:=(R.1.evs).flatMap Ev.cells) (xs':=(R.1.evs).flatMap Ev.cells) 0 ko (wn rfl) rfl rfl rfl rfl rfl rfl (St.bG 2 ko rfl) Tryz.underlying40 lN rfl (by decide) (dF _) (by simp only [maxLen];omega) (by omega) (rfl) ?_;intro Ng c117 JQ YS YT kX;refine zQ ?_;refine lQ 1 kX qV ?_;intro MX pz;iterate 5 refine zQ ?_
     refine sa 6 pz aC ?_;intro WJ zY;iterate 5 refine zQ ?_
     have kH:=zY.aR [9,8,7,6,5,4,3,2,1];rw [iq iQ kF (by dsimp only;omega) (by rw [hR];exact sI),hR];rw [Nat.zero_add] at kH⊢;exact ⟨Ng,c117,(cO (kH.own 0 rfl)).1,rfl,kH.aZ 0 rfl⟩
    iterate 6 refine zQ ?_
    refine vv gB ?_;refine sa 5 jg aC ?_;intro Ie nM;iterate 6 refine zQ ?_
    have rD:=nM.aR [8,7,6,5,4,3,2,1,0];rw [mV iQ kF (by rw [hR];exact sI)];exact ⟨none,0,Nat.le_refl 0,rfl,aJ rD⟩
   iterate 8 refine zQ ?_
   refine vv gB ?_;refine sa 0 mE aC ?_;intro MZ oK;iterate 6 refine zQ ?_
   have qE:=oK.aR [3,2,1,0];rw [mU iQ kF (by dsimp only;omega)];exact ⟨none,0,Nat.le_refl 0,rfl,aJ qE⟩
  iterate 6 refine zQ ?_
  refine vv gB ?_;refine zQ ?_;refine sa 0 gH aC ?_;intro Ih pI;iterate 6 refine zQ ?_
  have xO:=pI.aR [3,2,1,0];rw [qw iQ kF];exact ⟨none,0,Nat.le_refl 0,rfl,aJ xO⟩
 iterate 6 refine zQ ?_
 refine vv gB ?_;refine zQ ?_;refine sa 0 jQ aC ?_;intro Kh uJ;iterate 6 refine zQ ?_
 have qF:=uJ.aR [3,2,1,0];rw [qp iQ];exact ⟨none,0,Nat.le_refl 0,rfl,aJ qF⟩
theorem PX (ro ep fr tg rd:Int) (A:Option Addr) (c:Nat) (l:List Ev) (kd qu e pe:Int) (x:Ev) (hlc:l.length≤c) (w:World) (h:Rd w w.heap.size 6 A l.length (bg l)) (hb:l.length*48≤reachBytes):
  Calls Tryz.prog 112 #[.agg #[iV ro,iV ep,iV fr,iV tg,iV rd,.slice A l.length c],.agg #[iV kd,iV qu,iV e,iV pe,iV x.kind,iV x.producer,iV x.id,iV x.body,iV x.aL,iV x.hno]] w (mg w (dN ⟨ro,ep,fr,tg,rd,l⟩ ⟨kd,qu,e,pe,x⟩)):=by
 by_cases hk:1≤kd∧kd≤7
 ·rcases (by omega:kd=1∨kd=2∨kd=3∨kd=4∨kd=5∨kd=6∨kd=7) with rfl | rfl | rfl | rfl | rfl | rfl | rfl
  ·exact abd ro ep fr tg rd A c l qu e pe x hlc w h hb
  ·exact abe ro ep fr tg rd A c l qu e pe x hlc w h hb
  ·exact abf ro ep fr tg rd A c l qu e pe x hlc w h hb
  ·exact abg ro ep fr tg rd A c l qu e pe x hlc w h hb
  ·exact abh ro ep fr tg rd A c l qu e pe x hlc w h hb
  ·exact abj ro ep fr tg rd A c l qu e pe x hlc w h hb
  exact abk ro ep fr tg rd A c l qu e pe x hlc w h hb
 exact abb ro ep fr tg rd A c l kd qu e pe x hk w h hb
end Go.Proofs.YtbffmhpkenoogaaGreatDoor
