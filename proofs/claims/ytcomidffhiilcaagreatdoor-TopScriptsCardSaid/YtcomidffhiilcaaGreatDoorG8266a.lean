import Derived.Test.YtcomidffhiilcaaGreatDoorG010de
import Derived.Test.YtcomidffhiilcaaGreatDoorG713ea
import Derived.Test.YtcomidffhiilcaaGreatDoorG8fc3d
import Derived.Test.YtcomidffhiilcaaGreatDoorGc0648
set_option maxRecDepth 100000
set_option maxHeartbeats 8000000
set_option linter.unusedSimpArgs false
set_option linter.unusedVariables false
namespace Go.Proofs.YtcomidffhiilcaaGreatDoor
open ChangeShapes WideShapes RowKit
theorem GX (e:Ev) (w:World):Calls Tryz.prog 110 #[e.val] w (UC w (bL e)):=(Gs e w).mono λ_ _ h=>⟨h.1,h.2⟩
theorem JQ {B:Nat} {w0 w:World} (S:St B w0 w []):St B w0 w [.bI 2 none 0 [],.bI 4 none 0 []]:=
 (aB S).cons ⟨Rd.none_,λa h=>by cases h⟩ λk hk=>by cases hk
theorem wD (ep nx gv kd pr id bd he hn:Int) (A1 A2:Option Addr) (c1 c2:Nat) (rs:List gV) (ls:List Ls) (W:kN) (w:World) (h1:Rd w w.heap.size 2 A1 rs.length (rs.flatMap gV.cells)) (h2:Rd w w.heap.size 4 A2 ls.length (ls.flatMap Ls.cells)) (hb1:rs.length*16<=reachBytes) (hb2:ls.length*32<=reachBytes):
    Calls Tryz.prog 157 #[.agg (cZ ep nx gv (.slice A1 rs.length c1) (.slice A2 ls.length c2) W),.agg #[iV kd,iV pr,iV id,iV bd,iV he,iV hn]] w (aiE w (jS ⟨ep,nx,gv,rs,ls,W⟩ ⟨kd,pr,id,bd,he,hn⟩)):=by
 have S:=((St.start w).bX h2).bX h1;refine gK 70 Tryz.func157 ?_;refine cw [0,1] ?_;refine zN 2 ?_;refine iT S ?_;intro b1 w2 S3;refine iT S3 ?_;intro b4 w5 S6;refine iD (V:=λb=>pV b 0) (row:=cZ 0 0 0 (.slice none 0 0) (.slice none 0 0) jF) (t:=224) S6 (wn rfl) rfl rfl (fD rfl (Tryz.zeroValue224 _) rfl) ?_;intro b7 w8 S9;refine fT S9 sS ?_;intro b10 EW kP;refine zN 8 ?_;refine cab eQ kP (Pd ep nx gv A1 A2 c1 c2 rs ls W _ (St.rd 4 kP rfl) (St.rd 5 kP rfl) hb1 hb2) ?_;intro Ce jP;refine zN 6 ?_;by_cases h0:jv ep nx gv rs ls W=0
 ·obtain ⟨hR,hW,hRd,hLs,hNd⟩:=XO h0;unfold UD at hR;refine zN 10 ?_;refine cab eQ jP (GX ⟨kd,pr,id,bd,he,hn⟩ _) ?_;intro w16 kR;refine zN 6 ?_;by_cases h1:bL ⟨kd,pr,id,bd,he,hn⟩=0
  ·have hkd:=aiG h1;have hpr:=aiH h1;simp only at hkd hpr;obtain ⟨k,hk0⟩: ∃ k:Nat,pr=(k:Int):=⟨pr.toNat,by omega⟩;subst hk0;have hk:k<4:=oQ;refine zN 9 ?_;refine vv (v:= .agg (cZ ep nx gv (.slice A1 rs.length c1) (.slice A2 ls.length c2) W)) gB ?_;refine iT kR ?_;intro b19 Pt nO;refine zN 4 ?_;have iM:=nO.drew;refine aF 16 iM [0] ?_;refine aI 3 ?_;refine ak (v:= .slice A1 rs.length c1) 3 rfl (St.del 0 iM) (λ_ alG=>(ah rfl rfl (aG (St.cl 3 alG rfl pR)))) ?_;refine dJ ?_;refine ak (v:= .slice A2 ls.length c2) 6 rfl (St.del 0 iM) (λ_ alx=>(ah rfl rfl (aG (St.cl 3 alx rfl sU)))) ?_;refine aY 4 ?_;refine j5 4 rfl eQ (Pk A1 rs.length c1 _ _ (St.rd 5 iM rfl) (aej rs) hb1) ?_;rintro _ XV ⟨A29,c30,rfl,ax4,ax5⟩;refine ⟨_,rfl,?_⟩;have mX:=iM.tV ax4 ax5;refine dJ ?_;refine aY 7 ?_;refine j5 7 rfl eQ (Pm A2 ls.length c2 _ _ (St.rd 7 mX rfl) (XP ls) hb2) ?_;rintro _ w39 ⟨Q5,Q6,rfl,alp,ax6⟩;refine ⟨_,rfl,?_⟩;have vX:=mX.tV alp ax6;refine aI 4 ?_;refine aY 11 ?_;refine snz 11 rfl 2 vX kQ ?_ (hs:=by exact Ii);intro QU oP;refine aI 4 ?_;refine aY 15 ?_;refine snz 15 rfl 2 oP kQ ?_ (hs:=by exact Ij);intro w49 wZ;refine aI 2 ?_;refine zN 3 ?_;refine JF (k:=3) wZ (wn rfl) rfl rfl rfl ?_;intro b51 w52 zI;refine zQ ?_;refine vv Jb ?_;refine kG (e:=277) 0 zI (wn rfl) rfl rfl rfl rfl rfl rfl Tryz.underlying3 Tryz.underlying278 dQ dQ ?_;intro w54 vI;refine zQ ?_;refine vv Jb ?_;refine kG (e:=277) 0 vI (wn rfl) rfl rfl rfl rfl rfl rfl Tryz.underlying3 Tryz.underlying278 dQ dQ ?_;intro w56 qN;refine zQ ?_;refine vv Jb ?_;refine kG (e:=277) 0 qN (wn rfl) rfl rfl rfl rfl rfl rfl Tryz.underlying3 Tryz.underlying278 dQ dQ ?_;intro w58 Bl;refine zQ ?_;refine vv Jb ?_;refine kG (e:=277) 0 Bl (wn rfl) rfl rfl rfl rfl rfl rfl Tryz.underlying3 Tryz.underlying278 dQ dQ ?_;intro Zu EY;refine zN 3 ?_
   rcases (by omega:kd=1\/kd=2\/kd=3\/kd=4) with rfl | rfl | rfl | rfl
   ·refine vv (v:= .func (.func 167) #[pV b19 0] #[]) (jX 0 EY rfl rfl rfl rfl Tryz.underlying3 Tryz.underlying278 (Tryz.zeroValue277 _) dQ rfl) ?_;refine zN 7 ?_;have Jk:St w.heap.size w Zu [.blk b19 (cZ ep nx gv (.slice A29 rs.length c30) (.slice Q5 ls.length Q6) W) 270,.own 273 2 (.slice A29 rs.length c30) rs.length ((rs).flatMap gV.cells),.own 276 4 (.slice Q5 ls.length Q6) ls.length ((ls).flatMap Ls.cells),.loc b51 (qd Tryz.prog 3 (λy=>if y=4 then some (.func (.func 170) #[pV b19 0] #[]) else (λy=>if y=3 then some (.func (.func 169) #[pV b19 0] #[]) else (λy=>if y=2 then some (.func (.func 168) #[pV b19 0] #[]) else (λy=>if y=1 then some (.func (.func 167) #[pV b19 0] #[]) else (λ_=>none) y) y) y) y) 4),.blk b10 #[iV 0,iV 0,iV 0,iV 0] 48,.blk b7 (cZ 0 0 0 (.slice none 0 0) (.slice none 0 0) jF) 224,.blk b4 #[iV 1,iV ((k:Nat):Int),iV id,iV bd,iV he,iV hn] 46,.blk b1 (cZ ep nx gv (.slice A1 rs.length c1) (.slice A2 ls.length c2) W) 224,.rd 2 A1 rs.length ((rs).flatMap gV.cells),.rd 4 A2 ls.length ((ls).flatMap Ls.cells)]:=EY.re [3,2,1,0,4,5,6,7,8,9] dQ;have HC:=LY (kd:=1) (k:=k) (id:=id) (bd:=bd) (he:=he) (hn:=hn) Jk hk oQ oQ oQ oQ;rw [<-show stepM ⟨ep,nx,gv,rs,ls,W⟩ ⟨1,((k:Nat):Int),id,bd,he,hn⟩=FP ⟨ep,nx,gv,rs,ls,W⟩ k id bd from by simp [stepM]] at HC;obtain ⟨R,Uf⟩: ∃ R,stepM ⟨ep,nx,gv,rs,ls,W⟩ ⟨1,((k:Nat):Int),id,bd,he,hn⟩=R:=⟨_,rfl⟩;rw [Uf] at HC;refine vO eQ (HC) ?_;rintro _ w67 ⟨rfl,A63,c64,A65,c66,zL⟩;refine ⟨_,rfl,?_⟩;refine zN 3 ?_;refine fT zL sS ?_;intro b69 Y9 sK;refine sa 0 sK kQ ?_;intro w72 tQ;refine zN 4 ?_;have Ji:=tQ.drew;refine aF 10 Ji [6,5] ?_;refine aI 6 ?_;refine aY 6 ?_;refine XQ 6 rfl 6 Ji kQ ?_;intro w81 S82;refine dJ ?_;refine aY 7 ?_;refine sn 7 rfl 5 S82 kQ ?_;intro w83 CZ;refine aI 4 ?_;refine zN 2 ?_;refine bQ (rs:=[.cell 4 224,.cell 5 48,.tmp 6,.tmp 7]) (vs:=[.agg (cZ R.1.ep R.1.nx R.1.gv (.slice A63 R.1.ready.length c64) (.slice A65 R.1.bH.length c66) R.1.ws),.agg #[iV R.2.1.code,iV R.2.1.iC,iV R.2.1.hno,iV R.2.1.body],.bool R.2.2,iV 0]) rfl ⟨⟨_,rfl,dG 6 CZ rfl Tryz.underlying224 rfl kQ⟩,⟨_,rfl,dG 5 CZ rfl Tryz.underlying48 rfl kQ⟩,rfl,rfl,trivial⟩ ?_;have FU:=CZ.aU [10,9,8,7,6,5,4,1,0];rw [O6 (Q:=⟨ep,nx,gv,rs,ls,W⟩) h0 h1,Uf];exact ⟨A63,c64,A65,c66,rfl,FU⟩
   ·refine vv (v:= .func (.func 168) #[pV b19 0] #[]) (jX 0 EY rfl rfl rfl rfl Tryz.underlying3 Tryz.underlying278 (Tryz.zeroValue277 _) dQ rfl) ?_;refine zN 7 ?_;have GY:St w.heap.size w Zu [.blk b19 (cZ ep nx gv (.slice A29 rs.length c30) (.slice Q5 ls.length Q6) W) 270,.own 273 2 (.slice A29 rs.length c30) rs.length ((rs).flatMap gV.cells),.own 276 4 (.slice Q5 ls.length Q6) ls.length ((ls).flatMap Ls.cells),.loc b51 (qd Tryz.prog 3 (λy=>if y=4 then some (.func (.func 170) #[pV b19 0] #[]) else (λy=>if y=3 then some (.func (.func 169) #[pV b19 0] #[]) else (λy=>if y=2 then some (.func (.func 168) #[pV b19 0] #[]) else (λy=>if y=1 then some (.func (.func 167) #[pV b19 0] #[]) else (λ_=>none) y) y) y) y) 4),.blk b10 #[iV 0,iV 0,iV 0,iV 0] 48,.blk b7 (cZ 0 0 0 (.slice none 0 0) (.slice none 0 0) jF) 224,.blk b4 #[iV 2,iV ((k:Nat):Int),iV id,iV bd,iV he,iV hn] 46,.blk b1 (cZ ep nx gv (.slice A1 rs.length c1) (.slice A2 ls.length c2) W) 224,.rd 2 A1 rs.length ((rs).flatMap gV.cells),.rd 4 A2 ls.length ((ls).flatMap Ls.cells)]:=EY.re [3,2,1,0,4,5,6,7,8,9] dQ;have HC:=LZ (kd:=2) (k:=k) (id:=id) (bd:=bd) (he:=he) (hn:=hn) GY hk oQ oQ oQ oQ;rw [<-show stepM ⟨ep,nx,gv,rs,ls,W⟩ ⟨2,((k:Nat):Int),id,bd,he,hn⟩=MS ⟨ep,nx,gv,rs,ls,W⟩ from by simp [stepM]] at HC;obtain ⟨R,Uf⟩: ∃ R,stepM ⟨ep,nx,gv,rs,ls,W⟩ ⟨2,((k:Nat):Int),id,bd,he,hn⟩=R:=⟨_,rfl⟩;rw [Uf] at HC;refine vO eQ (HC) ?_;rintro _ w93 ⟨rfl,A89,c90,A91,c92,GJ⟩;refine ⟨_,rfl,?_⟩;refine zN 3 ?_;refine fT GJ sS ?_;intro b95 w96 Cc;refine sa 0 Cc kQ ?_;intro w98 Zd;refine zN 4 ?_;have rW:=Zd.drew;refine aF 10 rW [6,5] ?_;refine aI 6 ?_;refine aY 6 ?_;refine XQ 6 rfl 6 rW kQ ?_;intro ax7 uU;refine dJ ?_;refine aY 7 ?_;refine sn 7 rfl 5 uU kQ ?_;intro Ze qP;refine aI 4 ?_;refine zN 2 ?_;refine bQ (rs:=[.cell 4 224,.cell 5 48,.tmp 6,.tmp 7]) (vs:=[.agg (cZ R.1.ep R.1.nx R.1.gv (.slice A89 R.1.ready.length c90) (.slice A91 R.1.bH.length c92) R.1.ws),.agg #[iV R.2.1.code,iV R.2.1.iC,iV R.2.1.hno,iV R.2.1.body],.bool R.2.2,iV 0]) rfl ⟨⟨_,rfl,dG 6 qP rfl Tryz.underlying224 rfl kQ⟩,⟨_,rfl,dG 5 qP rfl Tryz.underlying48 rfl kQ⟩,rfl,rfl,trivial⟩ ?_;have nI:=qP.aU [10,9,8,7,6,5,4,1,0];rw [O6 (Q:=⟨ep,nx,gv,rs,ls,W⟩) h0 h1,Uf];exact ⟨A89,c90,A91,c92,rfl,nI⟩
   ·refine vv (v:= .func (.func 169) #[pV b19 0] #[]) (jX 0 EY rfl rfl rfl rfl Tryz.underlying3 Tryz.underlying278 (Tryz.zeroValue277 _) dQ rfl) ?_;refine zN 7 ?_;have Ep:St w.heap.size w Zu [.blk b19 (cZ ep nx gv (.slice A29 rs.length c30) (.slice Q5 ls.length Q6) W) 270,.own 273 2 (.slice A29 rs.length c30) rs.length ((rs).flatMap gV.cells),.own 276 4 (.slice Q5 ls.length Q6) ls.length ((ls).flatMap Ls.cells),.loc b51 (qd Tryz.prog 3 (λy=>if y=4 then some (.func (.func 170) #[pV b19 0] #[]) else (λy=>if y=3 then some (.func (.func 169) #[pV b19 0] #[]) else (λy=>if y=2 then some (.func (.func 168) #[pV b19 0] #[]) else (λy=>if y=1 then some (.func (.func 167) #[pV b19 0] #[]) else (λ_=>none) y) y) y) y) 4),.blk b10 #[iV 0,iV 0,iV 0,iV 0] 48,.blk b7 (cZ 0 0 0 (.slice none 0 0) (.slice none 0 0) jF) 224,.blk b4 #[iV 3,iV ((k:Nat):Int),iV id,iV bd,iV he,iV hn] 46,.blk b1 (cZ ep nx gv (.slice A1 rs.length c1) (.slice A2 ls.length c2) W) 224,.rd 2 A1 rs.length ((rs).flatMap gV.cells),.rd 4 A2 ls.length ((ls).flatMap Ls.cells)]:=EY.re [3,2,1,0,4,5,6,7,8,9] dQ;have HC:=Zp (kd:=3) (k:=k) (id:=id) (bd:=bd) (he:=he) (hn:=hn) Ep hk oQ oQ oQ oQ (aos hLs) (aot hLs);rw [<-show stepM ⟨ep,nx,gv,rs,ls,W⟩ ⟨3,((k:Nat):Int),id,bd,he,hn⟩=KY ⟨ep,nx,gv,rs,ls,W⟩ he hn from by simp [stepM]] at HC;obtain ⟨R,Uf⟩: ∃ R,stepM ⟨ep,nx,gv,rs,ls,W⟩ ⟨3,((k:Nat):Int),id,bd,he,hn⟩=R:=⟨_,rfl⟩;rw [Uf] at HC;refine vO eQ (HC) ?_;rintro _ aqG ⟨rfl,aqH,c116,aqI,aqJ,qC⟩;refine ⟨_,rfl,?_⟩;refine zN 3 ?_;refine fT qC sS ?_;intro aHi alH zo;refine sa 0 zo kQ ?_;intro aqK Qp;refine zN 4 ?_;have xk:=Qp.drew;refine aF 10 xk [6,5] ?_;refine aI 6 ?_;refine aY 6 ?_;refine XQ 6 rfl 6 xk kQ ?_;intro ZG zq;refine dJ ?_;refine aY 7 ?_;refine sn 7 rfl 5 zq kQ ?_;intro aqb Ee;refine aI 4 ?_;refine zN 2 ?_;refine bQ (rs:=[.cell 4 224,.cell 5 48,.tmp 6,.tmp 7]) (vs:=[.agg (cZ R.1.ep R.1.nx R.1.gv (.slice aqH R.1.ready.length c116) (.slice aqI R.1.bH.length aqJ) R.1.ws),.agg #[iV R.2.1.code,iV R.2.1.iC,iV R.2.1.hno,iV R.2.1.body],.bool R.2.2,iV 0]) rfl ⟨⟨_,rfl,dG 6 Ee rfl Tryz.underlying224 rfl kQ⟩,⟨_,rfl,dG 5 Ee rfl Tryz.underlying48 rfl kQ⟩,rfl,rfl,trivial⟩ ?_;have FZ:=Ee.aU [10,9,8,7,6,5,4,1,0];rw [O6 (Q:=⟨ep,nx,gv,rs,ls,W⟩) h0 h1,Uf];exact ⟨aqH,c116,aqI,aqJ,rfl,FZ⟩
   refine vv (v:= .func (.func 170) #[pV b19 0] #[]) (jX 0 EY rfl rfl rfl rfl Tryz.underlying3 Tryz.underlying278 (Tryz.zeroValue277 _) dQ rfl) ?_;refine zN 7 ?_;have FT:St w.heap.size w Zu [.blk b19 (cZ ep nx gv (.slice A29 rs.length c30) (.slice Q5 ls.length Q6) W) 270,.own 273 2 (.slice A29 rs.length c30) rs.length ((rs).flatMap gV.cells),.own 276 4 (.slice Q5 ls.length Q6) ls.length ((ls).flatMap Ls.cells),.loc b51 (qd Tryz.prog 3 (λy=>if y=4 then some (.func (.func 170) #[pV b19 0] #[]) else (λy=>if y=3 then some (.func (.func 169) #[pV b19 0] #[]) else (λy=>if y=2 then some (.func (.func 168) #[pV b19 0] #[]) else (λy=>if y=1 then some (.func (.func 167) #[pV b19 0] #[]) else (λ_=>none) y) y) y) y) 4),.blk b10 #[iV 0,iV 0,iV 0,iV 0] 48,.blk b7 (cZ 0 0 0 (.slice none 0 0) (.slice none 0 0) jF) 224,.blk b4 #[iV 4,iV ((k:Nat):Int),iV id,iV bd,iV he,iV hn] 46,.blk b1 (cZ ep nx gv (.slice A1 rs.length c1) (.slice A2 ls.length c2) W) 224,.rd 2 A1 rs.length ((rs).flatMap gV.cells),.rd 4 A2 ls.length ((ls).flatMap Ls.cells)]:=EY.re [3,2,1,0,4,5,6,7,8,9] dQ;have HC:=Zr (kd:=4) (k:=k) (id:=id) (bd:=bd) (he:=he) (hn:=hn) FT hk oQ oQ oQ oQ (aiF hRd) hNd;rw [<-show stepM ⟨ep,nx,gv,rs,ls,W⟩ ⟨4,((k:Nat):Int),id,bd,he,hn⟩=UE ⟨ep,nx,gv,rs,ls,W⟩ from by simp [stepM]] at HC;obtain ⟨R,Uf⟩: ∃ R,stepM ⟨ep,nx,gv,rs,ls,W⟩ ⟨4,((k:Nat):Int),id,bd,he,hn⟩=R:=⟨_,rfl⟩;rw [Uf] at HC;refine vO eQ (HC) ?_;rintro _ ax8 ⟨rfl,agh,agi,ZH,ZI,Qj⟩;refine ⟨_,rfl,?_⟩;refine zN 3 ?_;refine fT Qj sS ?_;intro ax9 aya zn;refine sa 0 zn kQ ?_;intro aqL Nc;refine zN 4 ?_;have Iu:=Nc.drew;refine aF 10 Iu [6,5] ?_;refine aI 6 ?_;refine aY 6 ?_;refine XQ 6 rfl 6 Iu kQ ?_;intro aqM Nf;refine dJ ?_;refine aY 7 ?_;refine sn 7 rfl 5 Nf kQ ?_;intro ayb Iw;refine aI 4 ?_;refine zN 2 ?_;refine bQ (rs:=[.cell 4 224,.cell 5 48,.tmp 6,.tmp 7]) (vs:=[.agg (cZ R.1.ep R.1.nx R.1.gv (.slice agh R.1.ready.length agi) (.slice ZH R.1.bH.length ZI) R.1.ws),.agg #[iV R.2.1.code,iV R.2.1.iC,iV R.2.1.hno,iV R.2.1.body],.bool R.2.2,iV 0]) rfl ⟨⟨_,rfl,dG 6 Iw rfl Tryz.underlying224 rfl kQ⟩,⟨_,rfl,dG 5 Iw rfl Tryz.underlying48 rfl kQ⟩,rfl,rfl,trivial⟩ ?_;have xY:=Iw.aU [10,9,8,7,6,5,4,1,0];rw [O6 (Q:=⟨ep,nx,gv,rs,ls,W⟩) h0 h1,Uf];exact ⟨agh,agi,ZH,ZI,rfl,xY⟩
  refine zN 2 ?_;refine tK (vv (v:= .agg (cZ 0 0 0 (.slice none 0 0) (.slice none 0 0) jF)) yz ?_);refine zN 2 ?_;refine saq 1 kR kQ ?_;intro ayc aqN;refine sa 0 aqN kQ ?_;intro alI K7;refine zN 6 ?_;refine bQ (rs:=[.cell 4 224,.cell 5 48,.tmp 6,.tmp 7]) (vs:=[.agg (cZ 0 0 0 (.slice none 0 0) (.slice none 0 0) jF),.agg #[iV 0,iV 0,iV 0,iV 0],.bool false,iV (bL ⟨kd,pr,id,bd,he,hn⟩)]) rfl ⟨⟨_,rfl,dG 1 K7 rfl Tryz.underlying224 rfl kQ⟩,⟨_,rfl,dG 0 K7 rfl Tryz.underlying48 rfl kQ⟩,rfl,rfl,trivial⟩ ?_;have UN:=K7.aU [5,4,3,2,1,0];rw [akb (Q:=⟨ep,nx,gv,rs,ls,W⟩) h0 h1];exact ⟨none,0,none,0,rfl,JQ UN⟩
 refine zN 2 ?_;refine tK (vv (v:= .agg (cZ 0 0 0 (.slice none 0 0) (.slice none 0 0) jF)) yz ?_);refine zN 2 ?_;refine saq 1 jP kQ ?_;intro ayd yg;refine sa 0 yg kQ ?_;intro axr Zh;refine zN 6 ?_;refine bQ (rs:=[.cell 4 224,.cell 5 48,.tmp 6,.tmp 7]) (vs:=[.agg (cZ 0 0 0 (.slice none 0 0) (.slice none 0 0) jF),.agg #[iV 0,iV 0,iV 0,iV 0],.bool false,iV (jv ep nx gv rs ls W)]) rfl ⟨⟨_,rfl,dG 1 Zh rfl Tryz.underlying224 rfl kQ⟩,⟨_,rfl,dG 0 Zh rfl Tryz.underlying48 rfl kQ⟩,rfl,rfl,trivial⟩ ?_;have UO:=Zh.aU [5,4,3,2,1,0];rw [aj9 (Q:=⟨ep,nx,gv,rs,ls,W⟩) h0];exact ⟨none,0,none,0,rfl,JQ UO⟩
def Iy (e n g:Int) (r l:Value) (W:kN) (a:Value):Array Value:=(iV e::iV n::iV g::r::l::(W.cells++[a])).toArray
section
variable {e n g:Int} {r l a:Value} {W:kN}
theorem ZJ:(Iy e n g r l W a).size=42:=rfl
theorem acW: ∀ (j:Nat) (u:Value),(cZ e n g r l W).toList[j]? =some u->(Iy e n g r l W a)[0+j]? =some u:=l8 (m:=41) rfl
theorem aiR {e' n' g':Int} {r' l':Value} {W':kN}:cB (Iy e n g r l W a) 0 (cZ e' n' g' r' l' W').toList=Iy e' n' g' r' l' W' a:=by
 apply Array.toList_inj.1;rw [iq _ _ _ (by rw [ZJ];show 0+41<=42;omega)];rfl
end
def pE (g:Nat) (Q:Qd) (an:List jo) (A1:Option Addr) (c1:Nat) (A2:Option Addr) (c2:Nat) (A3:Option Addr) (c3:Nat) (fs:List Fact):List Fact:=
 (.blk g (Iy Q.ep Q.nx Q.gv (.slice A1 Q.ready.length c1) (.slice A2 Q.bH.length c2) Q.ws (.slice A3 an.length c3)) 240)::(.bI 2 A1 Q.ready.length ((Q.ready).flatMap gV.cells))::(.bI 4 A2 Q.bH.length ((Q.bH).flatMap Ls.cells))::(.own 48 4 (.slice A3 an.length c3) an.length ((an).flatMap jo.cells))::fs
def aiS (B:Nat) (w0:World) (g:Nat) (fs:List Fact) (an:List jo) (r:Qd×jo×Bool×Int) (e:Ending) (w':World):Prop:=
 ((r.2.2.2=0/\r.2.2.1=true)->e= .returned (.bool true)/\ ∃ A1 c1 A2 c2 A3 c3,St B w0 w' (pE g r.1 (an++[r.2.1]) A1 c1 A2 c2 A3 c3 fs))/\(¬ (r.2.2.2=0/\r.2.2.1=true)->e= .returned (.bool false)/\St B w0 w' fs)
def aeC (w:World) (r:Qd×List jo×Int) (e:Ending) (w':World):Prop:=
 (r.2.2=0-> ∃ g A1 c1 A2 c2 A3 c3,e= .returned (.tuple #[pV g 0,iV 0])/\St w.heap.size w w' (pE g r.1 r.2.1 A1 c1 A2 c2 A3 c3 []))/\(r.2.2≠0->e= .returned (.tuple #[.pointer none,iV r.2.2])/\Below w.heap.size w w')
def Wu (w:World) (r:Qd×List jo×Int) (e:Ending) (w':World):Prop:= ∃ A1 c1 A2 c2,
 e= .returned (.tuple #[.agg (cZ r.1.ep r.1.nx r.1.gv (.slice A1 r.1.ready.length c1) (.slice A2 r.1.bH.length c2) r.1.ws),iV r.2.2])/\
 St w.heap.size w w' [.bI 2 A1 r.1.ready.length (r.1.ready.flatMap gV.cells),.bI 4 A2 r.1.bH.length (r.1.bH.flatMap Ls.cells)]
def SV (w:World) (r:Qd×List jo×Int) (e:Ending) (w':World):Prop:= ∃ A c,
 e= .returned (.tuple #[.slice A r.2.1.length c,iV r.2.2])/\St w.heap.size w w' [.bI 4 A r.2.1.length (r.2.1.flatMap jo.cells)]
theorem ZK {B g c1 c2 c3:Nat} {w0 w:World} {fs:List Fact} {A1 A2 A3:Option Addr} {Q:Qd} {an:List jo} {x:Ev} (S:St B w0 w (pE g Q an A1 c1 A2 c2 A3 c3 fs)) (hq:Q.ready.length+Q.bH.length<=501) (ha:an.length<=2000):
    Calls Tryz.prog 160 #[pV g 0,.agg #[iV x.kind,iV x.producer,iV x.id,iV x.body,iV x.aL,iV x.hno]] w (aiS B w0 g fs an (jS Q x)):=by
 unfold pE at S;obtain ⟨R,hR⟩: ∃ R,jS Q x=R:=⟨_,rfl⟩;refine gK 40 Tryz.func160 ?_;refine cw [0,1] ?_;refine zN 2 ?_;refine iT S ?_;intro b1 w2 S3;refine zN 3 ?_;refine mU (X:=Nat×Nat×(Option Addr)×Nat×(Option Addr)×Nat) (λxv=>[(0,pV g 0),(4,.bool false),(5,pV xv.1 0),(6,pV xv.2.1 0),(7,.bool R.2.2.1),(8,iV R.2.2.2)]) (λxv wr=>St B w0 wr ((.blk xv.2.1 #[iV R.2.1.code,iV R.2.1.iC,iV R.2.1.hno,iV R.2.1.body] 48)::(.blk xv.1 (cZ R.1.ep R.1.nx R.1.gv (.slice xv.2.2.1 R.1.ready.length xv.2.2.2.1) (.slice xv.2.2.2.2.1 R.1.bH.length xv.2.2.2.2.2) R.1.ws) 224)::(.bI 2 xv.2.2.1 R.1.ready.length ((R.1.ready).flatMap gV.cells))::(.bI 4 xv.2.2.2.2.1 R.1.bH.length ((R.1.bH).flatMap Ls.cells))::(.blk b1 #[iV x.kind,iV x.producer,iV x.id,iV x.body,iV x.aL,iV x.hno] 46)::(.blk g (Iy Q.ep Q.nx Q.gv (.slice A1 Q.ready.length c1) (.slice A2 Q.bH.length c2) Q.ws (.slice A3 an.length c3)) 240)::(.bI 2 A1 Q.ready.length ((Q.ready).flatMap gV.cells))::(.bI 4 A2 Q.bH.length ((Q.bH).flatMap Ls.cells))::(.own 48 4 (.slice A3 an.length c3) an.length ((an).flatMap jo.cells))::fs)) ?_ ?_
 ·have S4:=S3.drew;refine aF 17 S4 [] ?_;refine aI 3 ?_;refine ak (v:= .agg (cZ Q.ep Q.nx Q.gv (.slice A1 Q.ready.length c1) (.slice A2 Q.bH.length c2) Q.ws)) 3 rfl S4 (λ_ Sx8=>(ah rfl rfl (dK (cs:=(cZ Q.ep Q.nx Q.gv (.slice A1 Q.ready.length c1) (.slice A2 Q.bH.length c2) Q.ws).toList) (St.rg 1 Sx8 rfl (acW))))) ?_;refine dJ ?_;refine Qz (n:=11) (r:=5) (s:=11) (t:=12) kQ ?_ ?_ ?_
  ·have HD:=λA1 A2 c1 c2 w h1 h2=>wD Q.ep Q.nx Q.gv x.kind x.producer x.id x.body x.aL x.hno A1 A2 c1 c2 Q.ready Q.bH Q.ws w h1 h2 hQ hQ;rw [show jS ⟨Q.ep,Q.nx,Q.gv,Q.ready,Q.bH,Q.ws⟩ ⟨x.kind,x.producer,x.id,x.body,x.aL,x.hno⟩=R from hR] at HD;refine j5 5 rfl eQ (HD A1 A2 c1 c2 _ (St.bI 2 S4 rfl) (St.bI 3 S4 rfl)) ?_;rintro _ LB ⟨LH,c11,Pv,c13,rfl,T16⟩;refine ⟨_,rfl,?_⟩;have iW:=S4.ext T16 rfl;clear HD;refine aI 6 ?_;refine fu (n:=5) (r:=11) (s:=12) kQ ?_ ?_
   ·refine jV (i:=11) rfl rfl (V:=λb=>pV b 0) (row:=cZ 0 0 0 (.slice none 0 0) (.slice none 0 0) jF) (t:=224) iW (wn rfl) rfl rfl (fD rfl (Tryz.zeroValue224 _) rfl) ?_;intro Q7 Jj jq;refine dJ ?_;refine aY 12 ?_;refine lM 12 rfl jq sS ?_;intro QV Jh qx;refine dJ ?_;refine aY 13 ?_;refine XQ 13 rfl 1 qx kQ ?_;intro XU oW;refine dJ ?_;refine aY 14 ?_;refine sn 14 rfl 0 oW kQ ?_;intro TY lg;refine aI 4 ?_;refine dD (Q7,QV,LH,c11,Pv,c13) ?_ rE;exact lg
   refine lM 12 rfl iW sS ?_;intro b34 XW og;refine dJ ?_;refine aY 11 ?_;refine jV (i:=11) rfl rfl (V:=λb=>pV b 0) (row:=cZ 0 0 0 (.slice none 0 0) (.slice none 0 0) jF) (t:=224) og (wn rfl) rfl rfl (fD rfl (Tryz.zeroValue224 _) rfl) ?_;intro b37 w38 CY;refine dJ ?_;refine aY 13 ?_;refine XQ 13 rfl 0 CY kQ ?_;intro w40 Jf;refine dJ ?_;refine aY 14 ?_;refine sn 14 rfl 1 Jf kQ ?_;intro QT qM;refine aI 4 ?_;have sN:=qM.dZ [8,8,8,8,8,8,8,7,8];refine dD (b37,b34,LH,c11,Pv,c13) ?_ rE;exact sN
  ·refine jV (i:=11) rfl rfl (V:=λb=>pV b 0) (row:=cZ 0 0 0 (.slice none 0 0) (.slice none 0 0) jF) (t:=224) S4 (wn rfl) rfl rfl (fD rfl (Tryz.zeroValue224 _) rfl) ?_;intro b47 ZL u6;refine dJ ?_;refine fu (n:=10) (r:=5) (s:=12) kQ ?_ ?_
   ·have HD:=λA1 A2 c1 c2 w h1 h2=>wD Q.ep Q.nx Q.gv x.kind x.producer x.id x.body x.aL x.hno A1 A2 c1 c2 Q.ready Q.bH Q.ws w h1 h2 hQ hQ;rw [show jS ⟨Q.ep,Q.nx,Q.gv,Q.ready,Q.bH,Q.ws⟩ ⟨x.kind,x.producer,x.id,x.body,x.aL,x.hno⟩=R from hR] at HD;refine j5 5 rfl eQ (HD A1 A2 c1 c2 _ (St.bI 3 u6 rfl) (St.bI 4 u6 rfl)) ?_;rintro _ w54 ⟨X4,c51,A52,c53,rfl,T56⟩;refine ⟨_,rfl,?_⟩;have vI:=u6.ext T56 rfl;clear HD;refine aI 6 ?_;refine aY 12 ?_;refine lM 12 rfl vI sS ?_;intro b62 w63 S64;refine dJ ?_;refine aY 13 ?_;refine XQ 13 rfl 3 S64 kQ ?_;intro w65 EX;refine dJ ?_;refine aY 14 ?_;refine sn 14 rfl 0 EX kQ ?_;intro w67 zL;refine aI 4 ?_;have sK:=zL.dZ [8,8,8,8,8,7,7,8,8];refine dD (b47,b62,X4,c51,A52,c53) ?_ rE;exact sK
   refine lM 12 rfl u6 sS ?_;intro b72 w73 Ji;refine dJ ?_;refine aY 5 ?_;have HD:=λA1 A2 c1 c2 w h1 h2=>wD Q.ep Q.nx Q.gv x.kind x.producer x.id x.body x.aL x.hno A1 A2 c1 c2 Q.ready Q.bH Q.ws w h1 h2 hQ hQ;rw [show jS ⟨Q.ep,Q.nx,Q.gv,Q.ready,Q.bH,Q.ws⟩ ⟨x.kind,x.producer,x.id,x.body,x.aL,x.hno⟩=R from hR] at HD;refine j5 5 rfl eQ (HD A1 A2 c1 c2 _ (St.bI 4 Ji rfl) (St.bI 5 Ji rfl)) ?_;rintro _ w79 ⟨A75,c76,A77,c78,rfl,T81⟩;refine ⟨_,rfl,?_⟩;have Bg:=Ji.ext T81 rfl;clear HD;refine aI 6 ?_;refine aY 13 ?_;refine XQ 13 rfl 3 Bg kQ ?_;intro w87 GY;refine dJ ?_;refine aY 14 ?_;refine sn 14 rfl 2 GY kQ ?_;intro w89 QW;refine aI 4 ?_;have yZ:=QW.dZ [8,8,8,8,8,6,6,8,8];refine dD (b47,b72,A75,c76,A77,c78) ?_ rE;exact yZ
  refine lM 12 rfl S4 sS ?_;intro b94 w95 EZ;refine dJ ?_;refine fu (n:=10) (r:=5) (s:=11) kQ ?_ ?_
  ·have HD:=λA1 A2 c1 c2 w h1 h2=>wD Q.ep Q.nx Q.gv x.kind x.producer x.id x.body x.aL x.hno A1 A2 c1 c2 Q.ready Q.bH Q.ws w h1 h2 hQ hQ;rw [show jS ⟨Q.ep,Q.nx,Q.gv,Q.ready,Q.bH,Q.ws⟩ ⟨x.kind,x.producer,x.id,x.body,x.aL,x.hno⟩=R from hR] at HD;refine j5 5 rfl eQ (HD A1 A2 c1 c2 _ (St.bI 3 EZ rfl) (St.bI 4 EZ rfl)) ?_;rintro _ aqR ⟨A97,c98,ZM,aye,rfl,ayf⟩;refine ⟨_,rfl,?_⟩;have sZ:=EZ.ext ayf rfl;clear HD;refine aI 6 ?_;refine aY 11 ?_;refine jV (i:=11) rfl rfl (V:=λb=>pV b 0) (row:=cZ 0 0 0 (.slice none 0 0) (.slice none 0 0) jF) (t:=224) sZ (wn rfl) rfl rfl (fD rfl (Tryz.zeroValue224 _) rfl) ?_;intro ayg ayh FR;refine dJ ?_;refine aY 13 ?_;refine XQ 13 rfl 0 FR kQ ?_;intro ZN nI;refine dJ ?_;refine aY 14 ?_;refine sn 14 rfl 3 nI kQ ?_;intro alJ qQ;refine aI 4 ?_;have vR:=qQ.dZ [8,8,8,8,8,7,7,7,8];refine dD (ayg,b94,A97,c98,ZM,aye) ?_ rE;exact vR
  refine jV (i:=11) rfl rfl (V:=λb=>pV b 0) (row:=cZ 0 0 0 (.slice none 0 0) (.slice none 0 0) jF) (t:=224) EZ (wn rfl) rfl rfl (fD rfl (Tryz.zeroValue224 _) rfl) ?_;intro ayi aqS zu;refine dJ ?_;refine aY 5 ?_;have HD:=λA1 A2 c1 c2 w h1 h2=>wD Q.ep Q.nx Q.gv x.kind x.producer x.id x.body x.aL x.hno A1 A2 c1 c2 Q.ready Q.bH Q.ws w h1 h2 hQ hQ;rw [show jS ⟨Q.ep,Q.nx,Q.gv,Q.ready,Q.bH,Q.ws⟩ ⟨x.kind,x.producer,x.id,x.body,x.aL,x.hno⟩=R from hR] at HD;refine j5 5 rfl eQ (HD A1 A2 c1 c2 _ (St.bI 4 zu rfl) (St.bI 5 zu rfl)) ?_;rintro _ alK ⟨ayj,ayk,alL,alM,rfl,ayl⟩;refine ⟨_,rfl,?_⟩;have Qq:=zu.ext ayl rfl;clear HD;refine aI 6 ?_;refine aY 13 ?_;refine XQ 13 rfl 2 Qq kQ ?_;intro aqT K8;refine dJ ?_;refine aY 14 ?_;refine sn 14 rfl 3 K8 kQ ?_;intro ZO Er;refine aI 4 ?_;have FT:=Er.dZ [8,8,8,8,8,6,6,7,8];refine dD (ayi,b94,ayj,ayk,alL,alM) ?_ rE;exact FT
 rintro ⟨aym,aqe,ZH,ZI,Qr,c146⟩ aqU Cr
 try dsimp only at Cr
 refine bg (l':=[(0,pV g 0),(4,.bool false),(5,pV aym 0),(6,pV aqe 0),(7,.bool R.2.2.1),(8,iV R.2.2.2)]) rE (aA (aA (av (vm ?_))));by_cases h1:R.2.2.2=0
 ·refine zN 3 ?_
  cases h2:R.2.2.1
  ·refine zN 13 ?_;rw [show jS Q x=R from hR];have zn:=Cr.aU [8,7,6,5,4,3,2,1,0];exact ⟨λh=>absurd h (λh=>by rw [h2] at h;exact absurd h.2 iQ),λ_=>⟨rfl,zn⟩⟩
  refine zN 13 ?_;refine jE 5 Cr kQ ?_ (h1:=by exact JG rfl rfl) (hs:=by exact aiR);intro aqL Nc;refine zN 3 ?_;have Iu:=Nc.drew;refine eZ 11 8 Iu [8] ?_;iterate 6 refine gP ?_
  refine eG (m:=4) (r:=6) kQ ?_;refine mq (i:=6) rfl rfl (V:=λb=> .slice (aD b 0) 1 1) (row:= #[iV R.2.1.code,iV R.2.1.iC,iV R.2.1.hno,iV R.2.1.body]) (t:=48) Iu (wn rfl) rfl rfl (aS (vs:=[(0,.agg #[iV R.2.1.code,iV R.2.1.iC,iV R.2.1.hno,iV R.2.1.body])]) rfl wT kQ) ?_;intro aHj ayn ZP;refine gP ?_;refine eG (m:=3) (r:=7) kQ ?_;refine kX (i:=7) rfl rfl (news:=[iV R.2.1.code,iV R.2.1.iC,iV R.2.1.hno,iV R.2.1.body]) (xs':=(an++[R.2.1]).flatMap jo.cells) 9 ZP (wn rfl) rfl rfl rfl rfl rfl rfl (St.lI (xs:=[iV R.2.1.code,iV R.2.1.iC,iV R.2.1.hno,iV R.2.1.body]) 0 ZP rfl rfl rfl) Tryz.underlying194 anG rfl dQ (aM rfl) lQ oQ (kI (enc:=jo.cells) rfl rfl) ?_;intro aqV aqW aqf aDa aDb xY;refine gP ?_;refine eB kQ rfl rfl rfl ?_;refine zN 2 ?_;refine jE (row':=Iy R.1.ep R.1.nx R.1.gv (.slice ZH R.1.ready.length ZI) (.slice Qr R.1.bH.length c146) R.1.ws (.slice aqV (an.length+1) aqW)) 6 xY kQ ?_;intro alI K7;refine zQ ?_;refine iX ?_;refine zN 8 ?_;rw [show jS Q x=R from hR];have UN:=K7.aU [8,7,5,2,1,0];have alr:=UN.dZ [3,2,2,3];have hal:(an++[R.2.1]).length=an.length+1:=by simp
  refine ⟨λ_=>⟨rfl,ZH,ZI,Qr,c146,aqV,aqW,?_⟩,λh=>absurd ⟨h1,h2⟩ h⟩;unfold pE;rw [hal];exact alr
 refine zN 16 ?_;rw [show jS Q x=R from hR];have yg:=Cr.aU [8,7,6,5,4,3,2,1,0];exact ⟨λh=>absurd h (λh=>h1 h.1),λ_=>⟨rfl,yg⟩⟩
theorem Ky {l:List Ev} (h: ¬ (aP l).2.2=0):(aP l).1=gW/\(aP l).2.1=[]:=by
 by_cases hl:2000<l.length
 ·rw [MU hl];exact ⟨rfl,rfl⟩
 cases hg:iJ gW [] l with
 | none=>rw [JJ hl hg];exact ⟨rfl,rfl⟩
 | some r=>rw [Ec hl hg] at h;exact absurd rfl h
theorem Kz (A:Option Addr) (c:Nat) (l:List Ev) (w:World) (h:Rd w w.heap.size 6 A l.length (bn l)) (hl:l.length<=1152921504606846976):
    Calls Tryz.prog 143 #[.slice A l.length c] w (aeC w (aP l)):=by
 have S:=(St.start w).bX h;refine gK 24 Tryz.func143 ?_;refine cw [0] ?_;refine zN 11 ?_;by_cases h1:2000< ((l.length:Nat):Int)
 ·refine zN 13 ?_;rw [MU oQ];exact ⟨λh=>absurd h dQ,λ_=>⟨rfl,S.low⟩⟩
 refine zN 2 ?_;refine QC (vv (v:= .agg (Iy 0 0 0 (.slice none 0 0) (.slice none 0 0) jF (.slice none 0 0))) yz ?_);refine iT S ?_;intro b2 w3 S4;refine zN 12 ?_;have S5:=aB (s:=2) (aB (s:=4) (S4.nil 48 4));have S6:St w.heap.size w w3 [_,_,_,_,_]:=S5.re [3,0,1,2,4] dQ;refine eP (X:=Nat×Qd×(List jo)×(Option Addr)×Nat×(Option Addr)×Nat×(Option Addr)×Nat) (λxv=>[(2,.pointer none),(3,iV 0),(4,pV b2 0),(12,.slice A l.length c),(13,iV ((l.length:Nat):Int)),(14,iV ((xv.1:Nat):Int))]) (λxv wr=>(xv.1<=l.length)/\(iJ gW [] l=iJ xv.2.1 xv.2.2.1 (l.drop xv.1))/\(xv.2.1.ready.length+xv.2.1.bH.length<=501)/\(xv.2.2.1.length=xv.1)/\St w.heap.size w wr [.blk b2 (Iy xv.2.1.ep xv.2.1.nx xv.2.1.gv (.slice xv.2.2.2.1 xv.2.1.ready.length xv.2.2.2.2.1) (.slice xv.2.2.2.2.2.1 xv.2.1.bH.length xv.2.2.2.2.2.2.1) xv.2.1.ws (.slice xv.2.2.2.2.2.2.2.1 xv.2.2.1.length xv.2.2.2.2.2.2.2.2)) 240,.bI 2 xv.2.2.2.1 xv.2.1.ready.length ((xv.2.1.ready).flatMap gV.cells),.bI 4 xv.2.2.2.2.2.1 xv.2.1.bH.length ((xv.2.1.bH).flatMap Ls.cells),.own 48 4 (.slice xv.2.2.2.2.2.2.2.1 xv.2.2.1.length xv.2.2.2.2.2.2.2.2) xv.2.2.1.length ((xv.2.2.1).flatMap jo.cells),.rd 6 A l.length ((l).flatMap Ev.cells)]) (λxv=>l.length-xv.1) (0,gW,[],none,0,none,0,none,0) ?_ ?_ ?_
 ·exact ⟨Nat.zero_le _,rfl,(by simp [gW]),rfl,S6⟩
 ·exact rE
 rintro ⟨k,Q,an,A1,c1,A2,c2,A3,c3⟩ w7 ⟨hi9,nJ,zw,Iz,S8⟩
 try dsimp only at hi9 nJ zw Iz S8
 refine bg (l':=[(2,.pointer none),(3,iV 0),(4,pV b2 0),(12,.slice A l.length c),(13,iV ((l.length:Nat):Int)),(14,iV ((k:Nat):Int))]) rE (aA (av ?_));by_cases oH:((k:Nat):Int)< ((l.length:Nat):Int)
 ·refine zN 11 ?_;obtain ⟨b14,o15,rfl⟩:=Rd.addr (St.rd 4 S8 rfl) oQ;obtain ⟨ZQ,alN⟩:=EL k (St.rd 4 S8 rfl) oQ;refine vv (kY k) ?_;refine vv (ah rfl rfl (dK (cs:=Ev.cells ZQ) (Rd.vG (St.rd 4 S8 rfl) (λ_ _ h=>bU (enc:=Ev.cells) (sz:=6) (λ_=>rfl) alN h)))) ?_;refine fT S8 YX ?_;intro b18 BZ kD;refine sa 0 kD kQ ?_;intro CW iM;refine zN 6 ?_;have kS:St w.heap.size w CW [_,_,_,_,_,_]:=iM.re [1,2,3,4,0,5] dQ;obtain ⟨R,hR⟩: ∃ R,jS Q ZQ=R:=⟨_,rfl⟩;have HA:=ZK (fs:=[.blk b18 #[iV ZQ.kind,iV ZQ.producer,iV ZQ.id,iV ZQ.body,iV ZQ.aL,iV ZQ.hno] 46,.rd 6 (aD b14 o15) l.length ((l).flatMap Ev.cells)]) (x:=ZQ) (show St _ _ _ (pE _ _ _ _ _ _ _ _ _ _) from kS) zw oQ;rw [hR] at HA;by_cases hok:R.2.2.2=0/\R.2.2.1=true
  ·refine dL eQ (HA.mono λ_ _ h=>h.1 hok) ?_;rintro _ LG ⟨rfl,ZR,c27,A28,c29,om,c31,iy⟩;refine ⟨_,rfl,?_⟩;clear HA;refine zN 8 ?_;refine vv (v:=iV ((k+1:Nat):Int)) j6 ?_;refine zN 2 ?_;have pX:St w.heap.size w LG [_,_,_,_,_]:=iy.re [0,1,2,3,5] dQ;refine bT (k+1,R.1,an++[R.2.1],ZR,c27,A28,c29,om,c31) ?_ rE (by first | omega | (dsimp only;omega));exact ⟨uQ,(by dsimp only;rw [nJ,Sv alN (by rw [hR];exact hok.1) (by rw [hR];exact hok.2),hR]),by dsimp only;exact hR▸acE (by rw [hR];exact hok.1),(by dsimp only;rw [List.length_append,Iz];rfl),pX⟩
  refine dL eQ (HA.mono λ_ _ h=>h.2 hok) ?_;rintro _ XV ⟨rfl,mX⟩;refine ⟨_,rfl,?_⟩;clear HA;refine zN 17 ?_;rw [JJ oQ (by rw [nJ];exact Sw alN (by rw [hR];exact hok))];exact ⟨λh=>absurd h dQ,λ_=>⟨rfl,mX.low⟩⟩
 refine zN 19 ?_;have Jf:St w.heap.size w w7 [_,_,_,_]:=S8.re [0,1,2,3] dQ;rw [Ec (r:=(Q,an)) oQ (by rw [nJ];exact V7 oQ)];exact ⟨λ_=>⟨b2,A1,c1,A2,c2,A3,c3,rfl,Jf⟩,λh=>absurd rfl h⟩
theorem E5 (A:Option Addr) (c:Nat) (l:List Ev) (w:World) (h:Rd w w.heap.size 6 A l.length (bn l)) (hl:l.length<=1152921504606846976):
    Calls Tryz.prog 126 #[.slice A l.length c] w (Wu w (aP l)):=by
 have S:=(St.start w).bX h;refine gK 19 Tryz.func126 ?_;refine cw [0] ?_;refine zN 2 ?_;refine iD (V:=λb=>pV b 0) (row:=cZ 0 0 0 (.slice none 0 0) (.slice none 0 0) jF) (t:=224) S (wn rfl) rfl rfl (fD rfl (Tryz.zeroValue224 _) rfl) ?_;intro b1 w2 S3;refine zN 6 ?_;have HT:=λw h=>Kz A c l w h hl;by_cases ht:(aP l).2.2=0
 ·refine dL eQ ((HT _ (St.rd 1 S3 rfl)).mono λ_ _ h=>h.1 ht) ?_;rintro _ w4 ⟨b7,A8,c9,LH,c11,Pv,c13,rfl,T6⟩;refine ⟨_,rfl,?_⟩;unfold pE at T6;have S5:=S3.ext T6 rfl;clear HT T6 S3;change St _ _ _ [.blk b7 (Iy ((aP l).1.ep) ((aP l).1.nx) ((aP l).1.gv) (.slice A8 ((aP l).1.ready.length) c9) (.slice LH ((aP l).1.bH.length) c11) ((aP l).1.ws) (.slice Pv ((aP l).2.1.length) c13)) 240,.bI 2 A8 ((aP l).1.ready.length) (((aP l).1.ready).flatMap gV.cells),.bI 4 LH ((aP l).1.bH.length) (((aP l).1.bH).flatMap Ls.cells),.own 48 4 (.slice Pv ((aP l).2.1.length) c13) ((aP l).2.1.length) (((aP l).2.1).flatMap jo.cells),.blk b1 (cZ 0 0 0 (.slice none 0 0) (.slice none 0 0) jF) 224,.rd 6 A l.length ((l).flatMap Ev.cells)] at S5;refine zN 22 ?_;refine vv (ah rfl rfl (dK (cs:=(cZ ((aP l).1.ep) ((aP l).1.nx) ((aP l).1.gv) (.slice A8 ((aP l).1.ready.length) c9) (.slice LH ((aP l).1.bH.length) c11) ((aP l).1.ws)).toList) (St.rg 0 S5 rfl (acW)))) ?_;refine saq 4 S5 kQ ?_;intro LB iW;refine zN 5 ?_;have jR:St w.heap.size w LB [_,_]:=iW.re [1,2] dQ;refine ⟨A8,c9,LH,c11,?_,jR⟩;rw [ht];rfl
 refine dL eQ ((HT _ (St.rd 1 S3 rfl)).mono λ_ _ h=>h.2 ht) ?_;rintro _ Kt ⟨rfl,T19⟩;refine ⟨_,rfl,?_⟩;have iU:=S3.on T19;clear HT T19 S3;change St _ _ _ [.blk b1 (cZ 0 0 0 (.slice none 0 0) (.slice none 0 0) jF) 224,.rd 6 A l.length ((l).flatMap Ev.cells)] at iU;refine zN 13 ?_;refine tK (vv (v:= .agg (cZ 0 0 0 (.slice none 0 0) (.slice none 0 0) jF)) yz ?_);refine zQ ?_;refine saq 0 iU kQ ?_;intro Pt nO;refine zN 6 ?_;have iM:=nO.aU [1,0];have hz:=Ky ht;refine ⟨none,0,none,0,?_,?_⟩
 · rw [hz.1];rfl
 · rw [hz.1];exact JQ iM
theorem L9 (A:Option Addr) (c:Nat) (l:List Ev) (w:World) (h:Rd w w.heap.size 6 A l.length (bn l)) (hl:l.length<=1152921504606846976):
    Calls Tryz.prog 104 #[.slice A l.length c] w (SV w (aP l)):=by
 have S:=(St.start w).bX h;refine gK 18 Tryz.func104 ?_;refine cw [0] ?_;refine zN 9 ?_;have HT:=λw h=>Kz A c l w h hl;by_cases ht:(aP l).2.2=0
 ·refine dL eQ ((HT _ (St.rd 0 S rfl)).mono λ_ _ h=>h.1 ht) ?_;rintro _ w1 ⟨b4,A5,c6,A7,c8,A9,c10,rfl,T3⟩;refine ⟨_,rfl,?_⟩;unfold pE at T3;have S2:=S.ext T3 rfl;clear HT T3 S;refine zN 29 ?_;have rJ:St w.heap.size w w1 [_]:=S2.re [3] dQ;have kP:=rJ.bC 0 rfl;refine ⟨A9,c10,?_,kP⟩;rw [ht];rfl
 refine dL eQ ((HT _ (St.rd 0 S rfl)).mono λ_ _ h=>h.2 ht) ?_;rintro _ Ce ⟨rfl,T15⟩;refine ⟨_,rfl,?_⟩;have jP:=S.on T15;clear HT T15 S;refine zN 25 ?_;have jR:=jP.aU [0];have hz:=Ky ht;refine ⟨none,0,?_,?_⟩
 · rw [hz.2];rfl
 · rw [hz.2];exact aB jR
def kJ (w:World) (r:bK×Int) (e:Ending) (w':World):Prop:= ∃ A c,∃ _:r.1.evs.length<=c,e= .returned (.tuple #[.agg #[iV r.1.role,iV r.1.ep,iV r.1.fr,iV r.1.tg,iV r.1.rd,.slice A r.1.evs.length c],iV r.2])/\St w.heap.size w w' [.bI 6 A r.1.evs.length (bn r.1.evs)]
def ZT (w:World) (r:bK×jo×Bool×Int) (e:Ending) (w':World):Prop:= ∃ A c,∃ _:r.1.evs.length<=c,e= .returned (.tuple #[.agg #[iV r.1.role,iV r.1.ep,iV r.1.fr,iV r.1.tg,iV r.1.rd,.slice A r.1.evs.length c],r.2.1.val,.bool r.2.2.1,iV r.2.2.2])/\St w.heap.size w w' [.bI 6 A r.1.evs.length (bn r.1.evs)]
def Q8 (w:World) (r:List Ev×Bool×Int) (e:Ending) (w':World):Prop:= ∃ A c,∃ _:r.1.length<=c,e= .returned (.tuple #[.slice A r.1.length c,.bool r.2.1,iV r.2.2])/\St w.heap.size w w' [.bI 6 A r.1.length (bn r.1)]
def Q9 (w:World) (ro ep fr tg rd:Int) (l:List Ev) (e:Ending) (w':World):Prop:= ∃ A c,e= .returned (.agg #[iV ro,iV ep,iV fr,iV tg,iV rd,.slice A l.length c])/\St w.heap.size w w' [.own 46 6 (.slice A l.length c) l.length (bn l)]
theorem kK (n:Int) (w:World):
    Calls tP 105 #[iV n] w (EU w (decide (0<=n/\n<5))):=by
 have S:=St.start w;refine gK 9 Tryz.func105 ?_;refine cw [0] ?_;refine zN 8 ?_;by_cases h1:0<=n
 ·refine zN 3 ?_;by_cases h2:n<5
  ·refine zN 7 ?_;exact ⟨Y5 oQ,S.low⟩
  refine zN 7 ?_;exact ⟨yX oQ,S.low⟩
 refine zN 10 ?_;exact ⟨yX oQ,S.low⟩
theorem SX (ro ep fr tg rd:Int) (A:Option Addr) (c:Nat) (l:List Ev) (w:World) (h:Rd w w.heap.size 6 A l.length (bn l)) (hl:l.length<=1152921504606846976):
    Calls tP 125 #[.agg #[iV ro,iV ep,iV fr,iV tg,iV rd,.slice A l.length c]] w (EU w (decide (bD ⟨ro,ep,fr,tg,rd,l⟩))):=by
 have S:=(St.start w).bX h;refine gK 110 Tryz.func125 ?_;refine cw [0] ?_;refine zN 2 ?_;refine iT S ?_;intro b1 w2 S3;refine zN 8 ?_;by_cases h4:ro=0
 ·refine zN 8 ?_;by_cases h5:0<=ep
  ·refine zN 4 ?_;by_cases h6:ep<=1048576
   ·refine zN 5 ?_;by_cases h7:fr=0
    ·refine zN 5 ?_;by_cases h8:tg=0
     ·refine zN 5 ?_;by_cases h9:rd=0
      ·refine zN 6 ?_;by_cases h10:((l.length:Nat):Int)=0
       ·refine zN 8 ?_;exact ⟨Y5 (by unfold bD;dsimp only;omega),S3.low⟩
       refine zN 8 ?_;exact ⟨yX (by unfold bD;dsimp only;omega),S3.low⟩
      refine zN 14 ?_;exact ⟨yX (by unfold bD;dsimp only;omega),S3.low⟩
     refine zN 19 ?_;exact ⟨yX (by unfold bD;dsimp only;omega),S3.low⟩
    refine zN 24 ?_;exact ⟨yX (by unfold bD;dsimp only;omega),S3.low⟩
   refine zN 29 ?_;exact ⟨yX (by unfold bD;dsimp only;omega),S3.low⟩
  refine zN 33 ?_;exact ⟨yX (by unfold bD;dsimp only;omega),S3.low⟩
 refine zN 11 ?_;by_cases h11:ep<1
 ·refine zN 17 ?_;exact ⟨yX (by unfold bD;dsimp only;omega),S3.low⟩
 refine zN 4 ?_;by_cases h12:1048576<ep
 ·refine zN 13 ?_;exact ⟨yX (by unfold bD;dsimp only;omega),S3.low⟩
 refine zN 17 ?_;by_cases oH:ro=1
 ·refine zN 9 ?_;by_cases h14:fr=0
  ·refine zN 4 ?_;by_cases h15:tg=0
   ·refine zN 5 ?_;by_cases h16:rd=0
    ·refine zN 9 ?_;exact ⟨Y5 (by unfold bD;dsimp only;omega),S3.low⟩
    refine zN 9 ?_;exact ⟨yX (by unfold bD;dsimp only;omega),S3.low⟩
   refine zN 14 ?_;exact ⟨yX (by unfold bD;dsimp only;omega),S3.low⟩
  refine zN 18 ?_;exact ⟨yX (by unfold bD;dsimp only;omega),S3.low⟩
 refine zN 7 ?_;by_cases uO:ro=2
 ·refine zN 9 ?_;by_cases h18:fr=0
  ·refine zN 4 ?_;by_cases ZU:0<=tg/\tg<5
   ·have ZV:=λ(w:World)=>kK tg w;rw [decide_eq_true ZU] at ZV;refine xS eQ (ZV _) ?_;rintro _ CW ⟨rfl,ZW⟩;refine ⟨_,rfl,?_⟩;have iM:=S3.on ZW;clear ZW S3;refine zN 4 ?_;by_cases Pe:0<=rd
    ·refine zN 5 ?_;by_cases qo:rd<=4
     ·refine zN 9 ?_;exact ⟨Y5 (by unfold bD;dsimp only;omega),iM.low⟩
     refine zN 9 ?_;exact ⟨yX (by unfold bD;dsimp only;omega),iM.low⟩
    refine zN 14 ?_;exact ⟨yX (by unfold bD;dsimp only;omega),iM.low⟩
   have aqX:=λ(w:World)=>kK tg w;rw [decide_eq_false ZU] at aqX;refine xS eQ (aqX _) ?_;rintro _ MW ⟨rfl,agj⟩;refine ⟨_,rfl,?_⟩;have sJ:=S3.on agj;clear agj S3;refine zN 18 ?_;exact ⟨yX (by unfold bD;dsimp only;omega),sJ.low⟩
  refine zN 23 ?_;exact ⟨yX (by unfold bD;dsimp only;omega),S3.low⟩
 refine zN 7 ?_;by_cases h30:ro=3
 ·refine zN 9 ?_;by_cases h31:fr=0
  ·refine zN 4 ?_;by_cases aqY:0<=tg/\tg<5
   ·have aqZ:=λ(w:World)=>kK tg w;rw [decide_eq_true aqY] at aqZ;refine xS eQ (aqZ _) ?_;rintro _ w34 ⟨rfl,aq0⟩;refine ⟨_,rfl,?_⟩;have uj:=S3.on aq0;clear aq0 S3;refine zN 4 ?_;by_cases h37:rd=0
    ·refine zN 9 ?_;exact ⟨Y5 (by unfold bD;dsimp only;omega),uj.low⟩
    refine zN 9 ?_;exact ⟨yX (by unfold bD;dsimp only;omega),uj.low⟩
   have aq2:=λ(w:World)=>kK tg w;rw [decide_eq_false aqY] at aq2;refine xS eQ (aq2 _) ?_;rintro _ w39 ⟨rfl,aq3⟩;refine ⟨_,rfl,?_⟩;have vX:=S3.on aq3;clear aq3 S3;refine zN 13 ?_;exact ⟨yX (by unfold bD;dsimp only;omega),vX.low⟩
  refine zN 18 ?_;exact ⟨yX (by unfold bD;dsimp only;omega),S3.low⟩
 refine zN 7 ?_;by_cases h42:ro=4
 ·refine zN 9 ?_;by_cases aq4:0<=fr/\fr<5
  ·have aq5:=λ(w:World)=>kK fr w;rw [decide_eq_true aq4] at aq5;refine dL eQ (aq5 _) ?_;rintro _ w45 ⟨rfl,UF⟩;refine ⟨_,rfl,?_⟩;have sN:=S3.on UF;clear UF S3;refine zN 3 ?_;by_cases h48:tg=0
   ·refine zN 5 ?_;by_cases h49:rd=0
    ·refine zN 9 ?_;exact ⟨Y5 (by unfold bD;dsimp only;omega),sN.low⟩
    refine zN 9 ?_;exact ⟨yX (by unfold bD;dsimp only;omega),sN.low⟩
   refine zN 14 ?_;exact ⟨yX (by unfold bD;dsimp only;omega),sN.low⟩
  have aq6:=λ(w:World)=>kK fr w;rw [decide_eq_false aq4] at aq6;refine dL eQ (aq6 _) ?_;rintro _ Zm ⟨rfl,aq7⟩;refine ⟨_,rfl,?_⟩;have oh:=S3.on aq7;clear aq7 S3;refine zN 17 ?_;exact ⟨yX (by unfold bD;dsimp only;omega),oh.low⟩
 refine zN 15 ?_;exact ⟨yX (by unfold bD;dsimp only;omega),S3.low⟩
theorem dS (ro ep fr tg rd:Int) (A:Option Addr) (c:Nat) (l:List Ev) (w:World) (h:Rd w w.heap.size 6 A l.length (bn l)) (hl:l.length<=1152921504606846976):
    Calls tP 94 #[.agg #[iV ro,iV ep,iV fr,iV tg,iV rd,.slice A l.length c]] w (UC w (aj ⟨ro,ep,fr,tg,rd,l⟩)):=by
 have S:=(St.start w).bX h;refine gK 16 Tryz.func94 ?_;refine cw [0] ?_;refine zN 2 ?_;refine iT S ?_;intro b1 w2 S3;refine zN 7 ?_;have HC:=λ(w:World) (h:Rd w w.heap.size 6 A l.length (bn l))=>SX ro ep fr tg rd A c l w h hl;by_cases hs:bD ⟨ro,ep,fr,tg,rd,l⟩
 ·rw [decide_eq_true hs] at HC;refine dL eQ (HC _ (St.rd 1 S3 rfl)) ?_;rintro _ w4 ⟨rfl,hb6⟩;refine ⟨_,rfl,?_⟩;have S5:=S3.on hb6;clear hb6 S3;refine zN 11 ?_;refine dL eQ (E5 A c l _ (St.rd 1 S5 rfl) oQ) ?_;rintro _ EW ⟨A7,c8,A9,c10,rfl,T13⟩;refine ⟨_,rfl,?_⟩;have kP:=S5.ext T13 rfl;refine zN 3 ?_;refine iD (V:=λb=>pV b 0) (row:=cZ 0 0 0 (.slice none 0 0) (.slice none 0 0) jF) (t:=224) kP (wn rfl) rfl rfl (fD rfl (Tryz.zeroValue224 _) rfl) ?_;intro b14 C8 jR;refine saq 0 jR kQ ?_;intro Kt iU;refine zN 6 ?_;by_cases h19:(aP l).2.2=0
  ·refine zN 13 ?_;exact ⟨gX (by first | exact (mR ‹_› ‹_›).symm | exact (JK ‹_›).symm | exact (Ox (b:=⟨ro,ep,fr,tg,rd,l⟩) ‹_›).symm),iU.low⟩
  refine zN 12 ?_;exact ⟨gX (by first | exact (mR ‹_› ‹_›).symm | exact (JK ‹_›).symm | exact (Ox (b:=⟨ro,ep,fr,tg,rd,l⟩) ‹_›).symm),iU.low⟩
 rw [decide_eq_false hs] at HC;refine dL eQ (HC _ (St.rd 1 S3 rfl)) ?_;rintro _ Pt ⟨rfl,Zz⟩;refine ⟨_,rfl,?_⟩;have nO:=S3.on Zz;clear Zz S3;refine zN 12 ?_;exact ⟨gX (by first | exact (mR ‹_› ‹_›).symm | exact (JK ‹_›).symm | exact (Ox (b:=⟨ro,ep,fr,tg,rd,l⟩) ‹_›).symm),nO.low⟩
theorem aoQ {l k:List Ev}:l.flatMap Ev.cells++k.flatMap Ev.cells=(l++k).flatMap Ev.cells:=by simp
theorem l6 (A:Option Addr) (n c:Nat) (l:List Value) (w:World) (h:Rd w w.heap.size 6 A n l) (hone: ∀ u∈l,u.oneCell'=true) (hc:n*48<=reachBytes):
    Calls tP 142 #[.slice A n c] w (jw w 46 6 n l):=by
 unfold reachBytes at hc;have S:=(St.start w).bX h;refine gK 8 Tryz.func142 ?_;refine cw [0] ?_;refine zN 9 ?_
 cases A with
 | none=>
  obtain ⟨rfl,rfl⟩:=Ir h;refine vv (v:= .bool true) (aC rfl rfl rfl (uY Tryz.underlying121)) ?_;refine zN 11 ?_;exact jw.of (Below.refl _ _) (jf _ _ _ _)
 | some a=>
  refine vv (v:= .bool false) (aC rfl rfl rfl (uY Tryz.underlying121)) ?_;refine zN 7 ?_;refine qJ (V:=λb=> .slice (aD b 0) 0 0) (row:= #[]) (t:=46) (n:=0) (s:=6) (xs:=[]) S (wn rfl) rfl rfl (aS (vs:=[]) rfl trivial kQ) iQ (Nat.zero_le _) rfl ?_;intro b1 w2 S3;refine zQ ?_;refine dY (news:=l) (xs':=l) 0 S3 (wn rfl) rfl rfl rfl rfl rfl rfl (St.rd 1 S3 rfl) Tryz.underlying121 qw rfl dQ hone lQ oQ rfl ?_;intro A4 c5 w6 hc8 qR S7;refine zN 5 ?_;have nN:=S7.aU [1];have ho:=nN.own 0 rfl;simp only [Nat.zero_add] at ho⊢;exact jw.of nN.low ho
theorem q9 (ro ep fr tg rd:Int) (A:Option Addr) (c:Nat) (l:List Ev) (A':Option Addr) (c':Nat) (k:List Ev) (w:World) (h:Rd w w.heap.size 6 A l.length (bn l)) (h':Rd w w.heap.size 6 A' k.length (bn k)) (hb:(l.length+k.length)*48<=reachBytes):
    Calls tP 103 #[.agg #[iV ro,iV ep,iV fr,iV tg,iV rd,.slice A l.length c],.slice A' k.length c'] w (Q9 w ro ep fr tg rd (l++k)):=by
 have S:=((St.start w).bX h').bX h;clear h h';unfold reachBytes at hb;refine gK 12 Tryz.func103 ?_;refine cw [0,1] ?_;refine zN 2 ?_;refine iT S ?_;intro b1 w2 S3;refine fT S3 fM ?_;intro b4 w5 S6;refine zN 6 ?_;refine dL eQ (l6 A l.length c _ _ (St.rd 2 S6 rfl) (fB l) hQ) ?_;rintro _ EW ⟨A7,c8,rfl,O8,ayo⟩;refine ⟨_,rfl,?_⟩;have kP:=S6.tV O8 ayo;refine zQ ?_;refine dY (news:=(k).flatMap Ev.cells) (xs':=(l++k).flatMap Ev.cells) 0 kP (wn rfl) rfl rfl rfl rfl rfl rfl (St.rd 4 kP rfl) Tryz.underlying121 qw rfl dQ (fB _) lQ oQ (aoQ) ?_;intro A13 c14 C8 hc17 hm18 jR;refine zQ ?_;refine Gz 2 jR kQ ?_;intro BZ kD;refine zN 5 ?_;refine sa 1 kD kQ ?_;intro CW iM;refine zN 4 ?_;have kS:=iM.aU [4,3,2,1];have hl:(l++k).length=l.length+k.length:=List.length_append;rw [<-hl] at kS;exact ⟨A13,c14,by rw [hl];rfl,kS⟩
theorem jl (ro ep fr tg rd:Int) (A:Option Addr) (c:Nat) (l:List Ev) (w:World) (h:Rd w w.heap.size 6 A l.length (bn l)) (hb:l.length*48<=reachBytes):
  Calls tP 103 #[.agg #[iV ro,iV ep,iV fr,iV tg,iV rd,.slice A l.length c],.slice none 0 0] w (Q9 w ro ep fr tg rd l):=by
 have:=q9 ro ep fr tg rd A c l none 0 [] w h Rd.none_ (by simpa using hb);rw [List.append_nil] at this;exact this
theorem KA (ro ep fr tg rd:Int) (A:Option Addr) (c:Nat) (l:List Ev) (e:Int) (w:World) (h:Rd w w.heap.size 6 A l.length (bn l)) (hb:l.length*48<=reachBytes):
    Calls Tryz.prog 64 #[.agg #[iV ro,iV ep,iV fr,iV tg,iV rd,.slice A l.length c],iV e] w (kJ w (ji ⟨ro,ep,fr,tg,rd,l⟩ e)):=by
 have S:=(St.start w).bX h;have hb2:=hb;unfold reachBytes at hb2;refine gK 35 Tryz.func64 ?_;refine cw [0,1] ?_;refine zN 2 ?_;refine iT S ?_;intro b1 w2 S3;refine fT S3 fM ?_;intro b4 w5 S6;refine zN 7 ?_;refine cab eQ S6 (dS ro ep fr tg rd A c l _ (St.rd 2 S6 rfl) oQ) ?_;intro w7 S8;refine zN 7 ?_;by_cases h10:aj ⟨ro,ep,fr,tg,rd,l⟩=0
 ·have hsh:=(eH h10).1;unfold bD at hsh;have hln:=gG (eH h10).2;dsimp only at hsh hln;refine zN 8 ?_;by_cases h11:e<1
  ·refine zN 11 ?_;refine vv jm ?_;refine sa 0 S8 kQ ?_;intro w12 za;refine zN 7 ?_;have jP:=za.aU [2,1,0];rw [show ji ⟨ro,ep,fr,tg,rd,l⟩ e=(⟨0,0,0,0,0,[]⟩,2) from by unfold ji;(try dsimp only);exact kL];exact ⟨none,0,mh,rfl,aB jP⟩
  refine zN 3 ?_;by_cases h15:1048576<e
  ·refine zN 8 ?_;refine vv jm ?_;refine sa 0 S8 kQ ?_;intro w16 kR;refine zN 7 ?_;have iU:=kR.aU [2,1,0];rw [show ji ⟨ro,ep,fr,tg,rd,l⟩ e=(⟨0,0,0,0,0,[]⟩,2) from by unfold ji;(try dsimp only);exact kL];exact ⟨none,0,mh,rfl,aB iU⟩
  refine zN 10 ?_;by_cases h19:ro=0
  ·refine zN 10 ?_;by_cases h20:e<=ep
   ·refine zN 7 ?_;refine vv jm ?_;refine sa 0 S8 kQ ?_;intro CW iM;refine zN 7 ?_;have kS:=iM.aU [2,1,0];rw [show ji ⟨ro,ep,fr,tg,rd,l⟩ e=(⟨0,0,0,0,0,[]⟩,15) from by unfold ji;(try dsimp only);exact kL];exact ⟨none,0,mh,rfl,aB kS⟩
   refine zN 11 ?_;refine vv (v:= .agg #[iV 1,iV e,iV 0,iV 0,iV 0,.slice none 0 0]) gB ?_;refine sa 0 S8 kQ ?_;intro LG iy;refine zN 5 ?_;have nV:=iy.aU [2,1,0];rw [show ji ⟨ro,ep,fr,tg,rd,l⟩ e=(⟨1,e,0,0,0,[]⟩,0) from by unfold ji;(try dsimp only);exact kL];exact ⟨none,0,mh,rfl,aB nV⟩
  refine zN 7 ?_;refine vv jm ?_;refine sa 0 S8 kQ ?_;intro MW sJ;refine zN 7 ?_;have oW:=sJ.aU [2,1,0];rw [show ji ⟨ro,ep,fr,tg,rd,l⟩ e=(⟨0,0,0,0,0,[]⟩,8) from by unfold ji;(try dsimp only);exact kL];exact ⟨none,0,mh,rfl,aB oW⟩
 refine zN 7 ?_;refine vv jm ?_;refine zQ ?_;refine sa 0 S8 kQ ?_;intro TY lg;refine zN 7 ?_;have pX:=lg.aU [2,1,0];rw [show ji ⟨ro,ep,fr,tg,rd,l⟩ e=(⟨0,0,0,0,0,[]⟩,aj ⟨ro,ep,fr,tg,rd,l⟩) from by unfold ji;(try dsimp only);exact kL];exact ⟨none,0,mh,rfl,aB pX⟩
theorem aeD (ro ep fr tg rd:Int) (A:Option Addr) (c:Nat) (l:List Ev) (t:Int) (w:World) (h:Rd w w.heap.size 6 A l.length (bn l)) (hb:l.length*48<=reachBytes):
    Calls Tryz.prog 78 #[.agg #[iV ro,iV ep,iV fr,iV tg,iV rd,.slice A l.length c],iV t] w (kJ w (zH ⟨ro,ep,fr,tg,rd,l⟩ t)):=by
 have S:=(St.start w).bX h;have hb2:=hb;unfold reachBytes at hb2;refine gK 44 Tryz.func78 ?_;refine cw [0,1] ?_;refine zN 2 ?_;refine iT S ?_;intro b1 w2 S3;refine fT S3 fM ?_;intro b4 w5 S6;refine zN 7 ?_;refine cab eQ S6 (dS ro ep fr tg rd A c l _ (St.rd 2 S6 rfl) oQ) ?_;intro w7 S8;refine zN 7 ?_;by_cases h10:aj ⟨ro,ep,fr,tg,rd,l⟩=0
 ·have hsh:=(eH h10).1;unfold bD at hsh;have hln:=gG (eH h10).2;dsimp only at hsh hln;refine zN 8 ?_;by_cases aq9:0<=t/\t<5
  ·have ara:=λ(w:World)=>kK t w;rw [decide_eq_true aq9] at ara;refine dL eQ (ara _) ?_;rintro _ Ce ⟨rfl,agc⟩;refine ⟨_,rfl,?_⟩;have jP:=S8.on agc;clear agc S8;refine zN 9 ?_;by_cases h16:ro=2
   ·refine zN 12 ?_;refine vv jm ?_;refine sa 0 jP kQ ?_;intro Kt iU;refine zN 7 ?_;have kM:=iU.aU [2,1,0];rw [show zH ⟨ro,ep,fr,tg,rd,l⟩ t=(⟨0,0,0,0,0,[]⟩,12) from by unfold zH;(try dsimp only);exact kL];exact ⟨none,0,mh,rfl,aB kM⟩
   refine zN 4 ?_;by_cases h20:ro=3
   ·refine zN 8 ?_;refine vv jm ?_;refine sa 0 jP kQ ?_;intro CW iM;refine zN 7 ?_;have kS:=iM.aU [2,1,0];rw [show zH ⟨ro,ep,fr,tg,rd,l⟩ t=(⟨0,0,0,0,0,[]⟩,12) from by unfold zH;(try dsimp only);exact kL];exact ⟨none,0,mh,rfl,aB kS⟩
   refine zN 10 ?_;by_cases Pe:ro=1
   ·refine zN 9 ?_;by_cases qo:ep=1048576
    ·refine zN 7 ?_;refine vv jm ?_;refine sa 0 jP kQ ?_;intro Jh qx;refine zN 7 ?_;have sJ:=qx.aU [2,1,0];rw [show zH ⟨ro,ep,fr,tg,rd,l⟩ t=(⟨0,0,0,0,0,[]⟩,14) from by unfold zH;(try dsimp only);exact kL];exact ⟨none,0,mh,rfl,aB sJ⟩
    refine zN 12 ?_;refine Gz 1 jP kQ ?_;intro XZ uq;refine zQ ?_;refine Gz 1 uq kQ ?_;intro T9 pX;refine zN 5 ?_;refine dL eQ (jl 2 ep fr t rd A c l _ (St.rd 2 pX rfl) hb) ?_;rintro _ XW ⟨A33,c34,rfl,T37⟩;refine ⟨_,rfl,?_⟩;have og:=pX.ext T37 rfl;refine sa 1 og kQ ?_;intro w38 CY;refine zN 5 ?_;have vX:=CY.aU [3,2,1];have hcp:=(dP (vX.own 0 rfl)).1;have Jf:=vX.bC 0 rfl;rw [show zH ⟨ro,ep,fr,tg,rd,l⟩ t=(⟨2,ep,fr,t,rd,l⟩,0) from by unfold zH;(try dsimp only);exact kL];exact ⟨A33,c34,mh,rfl,Jf⟩
   refine zN 7 ?_;refine vv jm ?_;refine sa 0 jP kQ ?_;intro QT qM;refine zN 7 ?_;have yO:=qM.aU [2,1,0];rw [show zH ⟨ro,ep,fr,tg,rd,l⟩ t=(⟨0,0,0,0,0,[]⟩,7) from by unfold zH;(try dsimp only);exact kL];exact ⟨none,0,mh,rfl,aB yO⟩
  have arb:=λ(w:World)=>kK t w;rw [decide_eq_false aq9] at arb;refine dL eQ (arb _) ?_;rintro _ Ub ⟨rfl,hb48⟩;refine ⟨_,rfl,?_⟩;have vJ:=S8.on hb48;clear hb48 S8;refine zN 7 ?_;refine vv jm ?_;refine sa 0 vJ kQ ?_;intro w49 wZ;refine zN 7 ?_;have uh:=wZ.aU [2,1,0];rw [show zH ⟨ro,ep,fr,tg,rd,l⟩ t=(⟨0,0,0,0,0,[]⟩,2) from by unfold zH;(try dsimp only);exact kL];exact ⟨none,0,mh,rfl,aB uh⟩
 refine zN 7 ?_;refine vv jm ?_;refine zQ ?_;refine sa 0 S8 kQ ?_;intro w52 zI;refine zN 7 ?_;have lC:=zI.aU [2,1,0];rw [show zH ⟨ro,ep,fr,tg,rd,l⟩ t=(⟨0,0,0,0,0,[]⟩,aj ⟨ro,ep,fr,tg,rd,l⟩) from by unfold zH;(try dsimp only);exact kL];exact ⟨none,0,mh,rfl,aB lC⟩
theorem Pw (ro ep fr tg rd:Int) (A:Option Addr) (c:Nat) (l:List Ev) (hv:Int) (w:World) (h:Rd w w.heap.size 6 A l.length (bn l)) (hb:l.length*48<=reachBytes):
    Calls Tryz.prog 135 #[.agg #[iV ro,iV ep,iV fr,iV tg,iV rd,.slice A l.length c],iV hv] w (kJ w (bM ⟨ro,ep,fr,tg,rd,l⟩ hv)):=by
 have S:=(St.start w).bX h;have hb2:=hb;unfold reachBytes at hb2;refine gK 55 Tryz.func135 ?_;refine cw [0,1] ?_;refine zN 2 ?_;refine iT S ?_;intro b1 w2 S3;refine fT S3 fM ?_;intro b4 w5 S6;refine zN 7 ?_;refine cab eQ S6 (dS ro ep fr tg rd A c l _ (St.rd 2 S6 rfl) oQ) ?_;intro w7 S8;refine zN 6 ?_;by_cases h10:aj ⟨ro,ep,fr,tg,rd,l⟩=0
 ·have hsh:=(eH h10).1;unfold bD at hsh;have hln:=gG (eH h10).2;dsimp only at hsh hln;refine zN 11 ?_;by_cases h11:ro=2
  ·refine zN 15 ?_;by_cases h12:hv<0
   ·refine zN 13 ?_;refine vv jm ?_;refine sa 0 S8 kQ ?_;intro Ce jP;refine zN 6 ?_;have iW:=jP.aU [2,1,0];rw [show bM ⟨ro,ep,fr,tg,rd,l⟩ hv=(⟨0,0,0,0,0,[]⟩,2) from by unfold bM;(try dsimp only);exact kL];exact ⟨none,0,mh,rfl,aB iW⟩
   refine zN 6 ?_;by_cases h16:((l.length:Nat):Int)<hv
   ·refine zN 7 ?_;refine vv jm ?_;refine sa 0 S8 kQ ?_;intro Kt iU;refine zN 6 ?_;have kM:=iU.aU [2,1,0];rw [show bM ⟨ro,ep,fr,tg,rd,l⟩ hv=(⟨0,0,0,0,0,[]⟩,2) from by unfold bM;(try dsimp only);exact kL];exact ⟨none,0,mh,rfl,aB kM⟩
   refine zN 24 ?_;by_cases h20:hv=((l.length:Nat):Int)
   ·refine zN 12 ?_;refine Gz 1 S8 kQ ?_;intro CW iM;refine zQ ?_;refine Gz 1 iM kQ ?_;intro Jj jq;refine zN 6 ?_;refine dL eQ (jl 3 ep fr tg 0 A c l _ (St.rd 2 jq rfl) hb) ?_;rintro _ MW ⟨A25,c26,rfl,T29⟩;refine ⟨_,rfl,?_⟩;have sJ:=jq.ext T29 rfl;refine sa 1 sJ kQ ?_;intro TY lg;refine zN 5 ?_;have pX:=lg.aU [3,2,1];have hcp:=(dP (pX.own 0 rfl)).1;have kE:=pX.bC 0 rfl;rw [show bM ⟨ro,ep,fr,tg,rd,l⟩ hv=(⟨3,ep,fr,tg,0,l⟩,0) from by unfold bM;(try dsimp only);exact kL];exact ⟨A25,c26,mh,rfl,kE⟩
   refine zN 4 ?_;by_cases h34:rd=4
   ·refine zN 8 ?_;refine Gz 1 S8 kQ ?_;intro XW og;refine zQ ?_;refine Gz 1 og kQ ?_;intro Ud qD;refine zN 6 ?_;refine dL eQ (jl 3 ep fr tg 0 A c l _ (St.rd 2 qD rfl) hb) ?_;rintro _ w41 ⟨GR,c40,rfl,T43⟩;refine ⟨_,rfl,?_⟩;have uZ:=qD.ext T43 rfl;refine sa 1 uZ kQ ?_;intro QU oP;refine zN 5 ?_;have sN:=oP.aU [3,2,1];have hcp:=(dP (sN.own 0 rfl)).1;have vJ:=sN.bC 0 rfl;rw [show bM ⟨ro,ep,fr,tg,rd,l⟩ hv=(⟨3,ep,fr,tg,0,l⟩,0) from by unfold bM;(try dsimp only);exact kL];exact ⟨GR,c40,mh,rfl,vJ⟩
   refine zN 9 ?_;refine vv (v:=iV (rd+1)) j6 ?_;refine zQ ?_;refine Gz 1 S8 kQ ?_;intro ZL u6;refine zN 6 ?_;refine dL eQ (jl ro ep fr tg (rd+1) A c l _ (St.rd 2 u6 rfl) hb) ?_;rintro _ w52 ⟨X4,c51,rfl,T54⟩;refine ⟨_,rfl,?_⟩;have zI:=u6.ext T54 rfl;refine sa 1 zI kQ ?_;intro w55 DJ;refine zN 5 ?_;have qN:=DJ.aU [3,2,1];have hcp:=(dP (qN.own 0 rfl)).1;have um:=qN.bC 0 rfl;rw [show bM ⟨ro,ep,fr,tg,rd,l⟩ hv=(⟨ro,ep,fr,tg,rd+1,l⟩,0) from by unfold bM;(try dsimp only);exact kL];exact ⟨X4,c51,mh,rfl,um⟩
  refine zN 4 ?_;by_cases h59:ro=3
  ·refine zN 11 ?_;by_cases h60:hv<0
   ·refine zN 13 ?_;refine vv jm ?_;refine sa 0 S8 kQ ?_;intro w61 Jk;refine zN 6 ?_;have uM:=Jk.aU [2,1,0];rw [show bM ⟨ro,ep,fr,tg,rd,l⟩ hv=(⟨0,0,0,0,0,[]⟩,2) from by unfold bM;(try dsimp only);exact kL];exact ⟨none,0,mh,rfl,aB uM⟩
   refine zN 6 ?_;by_cases h64:((l.length:Nat):Int)<hv
   ·refine zN 7 ?_;refine vv jm ?_;refine sa 0 S8 kQ ?_;intro w65 EX;refine zN 6 ?_;have qO:=EX.aU [2,1,0];rw [show bM ⟨ro,ep,fr,tg,rd,l⟩ hv=(⟨0,0,0,0,0,[]⟩,2) from by unfold bM;(try dsimp only);exact kL];exact ⟨none,0,mh,rfl,aB qO⟩
   refine zN 24 ?_;refine dL eQ (jl ro ep fr tg rd A c l _ (St.rd 2 S8 rfl) hb) ?_;rintro _ Y9 ⟨A68,c69,rfl,T72⟩;refine ⟨_,rfl,?_⟩;have sK:=S8.ext T72 rfl;refine sa 1 sK kQ ?_;intro w73 Ji;refine zN 5 ?_;have DI:=Ji.aU [3,2,1];have hcp:=(dP (DI.own 0 rfl)).1;have Lv:=DI.bC 0 rfl;rw [show bM ⟨ro,ep,fr,tg,rd,l⟩ hv=(⟨ro,ep,fr,tg,rd,l⟩,0) from by unfold bM;(try dsimp only);exact kL];exact ⟨A68,c69,mh,rfl,Lv⟩
  refine zN 7 ?_;refine vv jm ?_;refine sa 0 S8 kQ ?_;intro w77 Jm;refine zN 6 ?_;have zJ:=Jm.aU [2,1,0];rw [show bM ⟨ro,ep,fr,tg,rd,l⟩ hv=(⟨0,0,0,0,0,[]⟩,7) from by unfold bM;(try dsimp only);exact kL];exact ⟨none,0,mh,rfl,aB zJ⟩
 refine zN 6 ?_;refine vv jm ?_;refine zQ ?_;refine sa 0 S8 kQ ?_;intro w80 tO;refine zN 6 ?_;have S82:=tO.aU [2,1,0];rw [show bM ⟨ro,ep,fr,tg,rd,l⟩ hv=(⟨0,0,0,0,0,[]⟩,aj ⟨ro,ep,fr,tg,rd,l⟩) from by unfold bM;(try dsimp only);exact kL];exact ⟨none,0,mh,rfl,aB S82⟩
theorem GZ (ro ep fr tg rd:Int) (A:Option Addr) (c:Nat) (l:List Ev) (e f:Int) (w:World) (h:Rd w w.heap.size 6 A l.length (bn l)) (hb:l.length*48<=reachBytes):
    Calls Tryz.prog 132 #[.agg #[iV ro,iV ep,iV fr,iV tg,iV rd,.slice A l.length c],iV e,iV f] w (kJ w (dB ⟨ro,ep,fr,tg,rd,l⟩ e f)):=by
 have S:=(St.start w).bX h;have hb2:=hb;unfold reachBytes at hb2;refine gK 66 Tryz.func132 ?_;refine cw [0,1,2] ?_;refine zN 2 ?_;refine iT S ?_;intro b1 w2 S3;refine fT S3 fM ?_;intro b4 w5 S6;refine zN 7 ?_;refine cab eQ S6 (dS ro ep fr tg rd A c l _ (St.rd 2 S6 rfl) oQ) ?_;intro w7 S8;refine zN 7 ?_;by_cases h10:aj ⟨ro,ep,fr,tg,rd,l⟩=0
 ·have hsh:=(eH h10).1;unfold bD at hsh;have hln:=gG (eH h10).2;dsimp only at hsh hln;refine zN 8 ?_;by_cases h11:e<1
  ·refine zN 16 ?_;refine vv jm ?_;refine sa 0 S8 kQ ?_;intro w12 za;refine zN 7 ?_;have jP:=za.aU [2,1,0];rw [show dB ⟨ro,ep,fr,tg,rd,l⟩ e f=(⟨0,0,0,0,0,[]⟩,2) from by unfold dB;(try dsimp only);exact kL];exact ⟨none,0,mh,rfl,aB jP⟩
  refine zN 3 ?_;by_cases h15:1048576<e
  ·refine zN 13 ?_;refine vv jm ?_;refine sa 0 S8 kQ ?_;intro w16 kR;refine zN 7 ?_;have iU:=kR.aU [2,1,0];rw [show dB ⟨ro,ep,fr,tg,rd,l⟩ e f=(⟨0,0,0,0,0,[]⟩,2) from by unfold dB;(try dsimp only);exact kL];exact ⟨none,0,mh,rfl,aB iU⟩
  refine zN 4 ?_;by_cases ZU:0<=f/\f<5
  ·have ZV:=λ(w:World)=>kK f w;rw [decide_eq_true ZU] at ZV;refine xS eQ (ZV _) ?_;rintro _ CW ⟨rfl,ZW⟩;refine ⟨_,rfl,?_⟩;have iM:=S8.on ZW;clear ZW S8;refine zN 10 ?_;by_cases Pe:ro=0
   ·refine zN 36 ?_;by_cases qo:e<=ep
    ·refine zN 7 ?_;refine vv jm ?_;refine sa 0 iM kQ ?_;intro Jh qx;refine zN 7 ?_;have sJ:=qx.aU [2,1,0];rw [show dB ⟨ro,ep,fr,tg,rd,l⟩ e f=(⟨0,0,0,0,0,[]⟩,15) from by unfold dB;(try dsimp only);exact kL];exact ⟨none,0,mh,rfl,aB sJ⟩
    refine zN 12 ?_;refine vv (v:= .agg #[iV 4,iV e,iV f,iV 0,iV 0,.slice none 0 0]) gB ?_;refine sa 0 iM kQ ?_;intro XZ uq;refine zN 5 ?_;have lg:=uq.aU [2,1,0];rw [show dB ⟨ro,ep,fr,tg,rd,l⟩ e f=(⟨4,e,f,0,0,[]⟩,0) from by unfold dB;(try dsimp only);exact kL];exact ⟨none,0,mh,rfl,aB lg⟩
   refine zN 4 ?_;by_cases h32:ro=4
   ·refine zN 15 ?_;by_cases h33:ep=e
    ·refine zN 6 ?_;by_cases h34:fr=f
     ·refine zN 9 ?_;refine dL eQ (jl ro ep fr tg rd A c l _ (St.rd 2 iM rfl) hb) ?_;rintro _ Ud ⟨Q5,Q6,rfl,T39⟩;refine ⟨_,rfl,?_⟩;have qD:=iM.ext T39 rfl;refine sa 1 qD kQ ?_;intro w40 Jf;refine zN 7 ?_;have uZ:=Jf.aU [3,2,1];have hcp:=(dP (uZ.own 0 rfl)).1;have qM:=uZ.bC 0 rfl;rw [show dB ⟨ro,ep,fr,tg,rd,l⟩ e f=(⟨ro,ep,fr,tg,rd,l⟩,0) from by unfold dB;(try dsimp only);exact kL];exact ⟨Q5,Q6,mh,rfl,qM⟩
     refine zN 11 ?_;by_cases h44:e<=ep
     ·refine zN 7 ?_;refine vv jm ?_;refine sa 0 iM kQ ?_;intro w45 sN;refine zN 7 ?_;have vJ:=sN.aU [2,1,0];rw [show dB ⟨ro,ep,fr,tg,rd,l⟩ e f=(⟨0,0,0,0,0,[]⟩,15) from by unfold dB;(try dsimp only);exact kL];exact ⟨none,0,mh,rfl,aB vJ⟩
     refine zN 12 ?_;refine vv (v:= .agg #[iV 4,iV e,iV f,iV 0,iV 0,.slice none 0 0]) gB ?_;refine sa 0 iM kQ ?_;intro ZL u6;refine zN 5 ?_;have wZ:=u6.aU [2,1,0];rw [show dB ⟨ro,ep,fr,tg,rd,l⟩ e f=(⟨4,e,f,0,0,[]⟩,0) from by unfold dB;(try dsimp only);exact kL];exact ⟨none,0,mh,rfl,aB wZ⟩
    refine zN 17 ?_;by_cases h51:e<=ep
    ·refine zN 7 ?_;refine vv jm ?_;refine sa 0 iM kQ ?_;intro w52 zI;refine zN 7 ?_;have lC:=zI.aU [2,1,0];rw [show dB ⟨ro,ep,fr,tg,rd,l⟩ e f=(⟨0,0,0,0,0,[]⟩,15) from by unfold dB;(try dsimp only);exact kL];exact ⟨none,0,mh,rfl,aB lC⟩
    refine zN 12 ?_;refine vv (v:= .agg #[iV 4,iV e,iV f,iV 0,iV 0,.slice none 0 0]) gB ?_;refine sa 0 iM kQ ?_;intro w55 DJ;refine zN 5 ?_;have qN:=DJ.aU [2,1,0];rw [show dB ⟨ro,ep,fr,tg,rd,l⟩ e f=(⟨4,e,f,0,0,[]⟩,0) from by unfold dB;(try dsimp only);exact kL];exact ⟨none,0,mh,rfl,aB qN⟩
   refine zN 8 ?_;refine vv jm ?_;refine sa 0 iM kQ ?_;intro w58 Bl;refine zN 7 ?_;have M8:=Bl.aU [2,1,0];rw [show dB ⟨ro,ep,fr,tg,rd,l⟩ e f=(⟨0,0,0,0,0,[]⟩,8) from by unfold dB;(try dsimp only);exact kL];exact ⟨none,0,mh,rfl,aB M8⟩
  have arh:=λ(w:World)=>kK f w;rw [decide_eq_false ZU] at arh;refine xS eQ (arh _) ?_;rintro _ Ua ⟨rfl,ari⟩;refine ⟨_,rfl,?_⟩;have uM:=S8.on ari;clear ari S8;refine zN 8 ?_;refine vv jm ?_;refine sa 0 uM kQ ?_;intro w65 EX;refine zN 7 ?_;have qO:=EX.aU [2,1,0];rw [show dB ⟨ro,ep,fr,tg,rd,l⟩ e f=(⟨0,0,0,0,0,[]⟩,2) from by unfold dB;(try dsimp only);exact kL];exact ⟨none,0,mh,rfl,aB qO⟩
 refine zN 7 ?_;refine vv jm ?_;refine zQ ?_;refine sa 0 S8 kQ ?_;intro w68 tN;refine zN 7 ?_;have r9:=tN.aU [2,1,0];rw [show dB ⟨ro,ep,fr,tg,rd,l⟩ e f=(⟨0,0,0,0,0,[]⟩,aj ⟨ro,ep,fr,tg,rd,l⟩) from by unfold dB;(try dsimp only);exact kL];exact ⟨none,0,mh,rfl,aB r9⟩
theorem E8 (ro ep fr tg rd:Int) (A:Option Addr) (c:Nat) (l:List Ev) (e:Int) (w:World) (h:Rd w w.heap.size 6 A l.length (bn l)) (hb:l.length*48<=reachBytes):
    Calls Tryz.prog 140 #[.agg #[iV ro,iV ep,iV fr,iV tg,iV rd,.slice A l.length c],iV e] w (kJ w (fZ ⟨ro,ep,fr,tg,rd,l⟩ e)):=by
 have S:=(St.start w).bX h;have hb2:=hb;unfold reachBytes at hb2;refine gK 28 Tryz.func140 ?_;refine cw [0,1] ?_;refine zN 2 ?_;refine iT S ?_;intro b1 w2 S3;refine fT S3 fM ?_;intro b4 w5 S6;refine zN 7 ?_;refine cab eQ S6 (dS ro ep fr tg rd A c l _ (St.rd 2 S6 rfl) oQ) ?_;intro w7 S8;refine zN 7 ?_;by_cases h10:aj ⟨ro,ep,fr,tg,rd,l⟩=0
 ·have hsh:=(eH h10).1;unfold bD at hsh;have hln:=gG (eH h10).2;dsimp only at hsh hln;refine zN 9 ?_;by_cases h11:ro=3
  ·refine zN 10 ?_;by_cases h12:e<=ep
   ·refine zN 7 ?_;refine vv jm ?_;refine sa 0 S8 kQ ?_;intro Ce jP;refine zN 7 ?_;have iW:=jP.aU [2,1,0];rw [show fZ ⟨ro,ep,fr,tg,rd,l⟩ e=(⟨0,0,0,0,0,[]⟩,15) from by unfold fZ;(try dsimp only);exact kL];exact ⟨none,0,mh,rfl,aB iW⟩
   refine zN 12 ?_;refine vv (v:= .agg #[iV 0,iV ep,iV 0,iV 0,iV 0,.slice none 0 0]) gB ?_;refine sa 0 S8 kQ ?_;intro w16 kR;refine zN 5 ?_;have iU:=kR.aU [2,1,0];rw [show fZ ⟨ro,ep,fr,tg,rd,l⟩ e=(⟨0,ep,0,0,0,[]⟩,0) from by unfold fZ;(try dsimp only);exact kL];exact ⟨none,0,mh,rfl,aB iU⟩
  refine zN 7 ?_;refine vv jm ?_;refine sa 0 S8 kQ ?_;intro BZ kD;refine zN 7 ?_;have nO:=kD.aU [2,1,0];rw [show fZ ⟨ro,ep,fr,tg,rd,l⟩ e=(⟨0,0,0,0,0,[]⟩,7) from by unfold fZ;(try dsimp only);exact kL];exact ⟨none,0,mh,rfl,aB nO⟩
 refine zN 7 ?_;refine vv jm ?_;refine zQ ?_;refine sa 0 S8 kQ ?_;intro Px kS;refine zN 7 ?_;have jq:=kS.aU [2,1,0];rw [show fZ ⟨ro,ep,fr,tg,rd,l⟩ e=(⟨0,0,0,0,0,[]⟩,aj ⟨ro,ep,fr,tg,rd,l⟩) from by unfold fZ;(try dsimp only);exact kL];exact ⟨none,0,mh,rfl,aB jq⟩
section
variable {b:bK} {k m:Nat}
theorem Av (h:aj b=0) (hr:b.role=2\/b.role=3) (hk:k<=b.evs.length) (hm:min (k+3) b.evs.length=k+m):jD b k=((b.evs.drop k).take m,decide (b.role=3/\k+m=b.evs.length),0):=by
 unfold jD;rw [if_neg (λh1=>h1 h),if_neg oQ,if_neg oQ];refine Prod.ext ?_ (Prod.ext ?_ rfl)
 ·simp only [Int.toNat_natCast];rw [List.take_eq_take_iff,List.length_drop];omega
 simp only [Int.toNat_natCast]
 congr 1
 exact propext ⟨λh=>⟨h.1,by omega⟩,λh=>⟨h.1,by omega⟩⟩
end
theorem JR {b:bK} {e:Ev} (h:aj b=0) (h1:bL e=0) (h2: ¬ e.kind=4) (h3:b.role=1\/b.role=2):iK b e=
  if (jS (aP b.evs).1 e).2.2.1=false then (b,(jS (aP b.evs).1 e).2.1,false,0) else if 1999<=b.evs.length then (b,rV 14,false,0) else ({ b with evs:=b.evs++[e] },(jS (aP b.evs).1 e).2.1,true,0):=by
 unfold iK;rw [if_neg (λh1=>h1 h),if_neg (λh=>h h1),if_neg h2,if_neg oQ,if_neg oQ]
theorem C9 (ro ep fr tg rd:Int) (A:Option Addr) (c:Nat) (l:List Ev) (w:World) (h:Rd w w.heap.size 6 A l.length (bn l)) (hl:l.length<=1152921504606846976):
    Calls tP 102 #[.agg #[iV ro,iV ep,iV fr,iV tg,iV rd,.slice A l.length c]] w (EU w (decide (ro=1\/ro=2))):=by
 have S:=(St.start w).bX h;refine gK 11 Tryz.func102 ?_;refine cw [0] ?_;refine zN 2 ?_;refine iT S ?_;intro b1 w2 S3;refine zN 7 ?_;by_cases h4:ro=1
 ·refine zN 11 ?_;exact ⟨Y5 oQ,S3.low⟩
 refine zN 4 ?_;by_cases h5:ro=2
 ·refine zN 7 ?_;exact ⟨Y5 oQ,S3.low⟩
 refine zN 7 ?_;exact ⟨yX oQ,S3.low⟩
theorem Wv (ro ep fr tg rd:Int) (A:Option Addr) (c:Nat) (l:List Ev) (w:World) (h:Rd w w.heap.size 6 A l.length (bn l)) (hb:l.length*48<=reachBytes):
    Calls tP 75 #[.agg #[iV ro,iV ep,iV fr,iV tg,iV rd,.slice A l.length c]] w (kJ w (fJ ⟨ro,ep,fr,tg,rd,l⟩)):=by
 have S:=(St.start w).bX h;have hb2:=hb;unfold reachBytes at hb2;refine gK 30 Tryz.func75 ?_;refine cw [0] ?_;refine zN 2 ?_;refine iT S ?_;intro b1 w2 S3;refine fT S3 fM ?_;intro b4 w5 S6;refine zN 7 ?_;refine cab eQ S6 (dS ro ep fr tg rd A c l _ (St.rd 2 S6 rfl) oQ) ?_;intro w7 S8;refine zN 6 ?_;by_cases h10:aj ⟨ro,ep,fr,tg,rd,l⟩=0
 ·have hsh:=(eH h10).1;unfold bD at hsh;have hln:=gG (eH h10).2;dsimp only at hsh hln;refine zN 10 ?_;have HC:=λ(w:World) (h:Rd w w.heap.size 6 A l.length (bn l))=>C9 ro ep fr tg rd A c l w h oQ;by_cases hsv:ro=1\/ro=2
  ·rw [decide_eq_true hsv] at HC;refine dL eQ (HC _ (St.rd 2 S8 rfl)) ?_;rintro _ EW ⟨rfl,agk⟩;refine ⟨_,rfl,?_⟩;have kP:=S8.on agk;clear agk S8;refine zN 12 ?_;refine vv (v:= .agg #[iV 1,iV ep,iV 0,iV 0,iV 0,.slice A l.length c]) gB ?_;refine vv (v:= .agg #[iV 4,iV 0,iV 0,iV 0,iV 0,iV 0]) gB ?_;refine YZ kP ?_;intro b14 C8 jR;refine dL eQ (q9 1 ep 0 0 0 A c l (aD b14 0) 1 [cO] _ (St.rd 3 jR rfl) (St.lI (xs:=bn [cO]) 0 jR rfl rfl rfl) (by simp only [List.length_cons,List.length_nil];unfold reachBytes;omega)) ?_;rintro _ BZ ⟨LJ,c18,rfl,T21⟩;refine ⟨_,rfl,?_⟩;have kD:=jR.ext T21 rfl;refine fT kD fM ?_;intro Q7 Jj jq;refine sa 0 jq kQ ?_;intro w25 nV;refine zN 6 ?_;refine cab eQ nV (dS 1 ep 0 0 0 LJ c18 (l++[cO]) _ (St.ord 1 nV rfl) (by simp only [List.length_append,List.length_cons,List.length_nil,List.length_drop];omega)) ?_;intro MW sJ;by_cases h30:aj ⟨1,ep,0,0,0,l++[cO]⟩=0
   ·have hsh:=(eH h30).1;unfold bD at hsh;have hln:=gG (eH h30).2;dsimp only at hsh hln;refine zN 9 ?_;refine sa 3 sJ kQ ?_;intro T9 pX;refine zN 5 ?_;have kE:=pX.aU [5,4,3,2,0];have hcp:=(dP (kE.own 0 rfl)).1;have mX:=kE.bC 0 rfl;rw [show fJ ⟨ro,ep,fr,tg,rd,l⟩=(⟨1,ep,0,0,0,l++[cO]⟩,0) from by unfold fJ;(try dsimp only);exact kL];exact ⟨LJ,c18,mh,rfl,mX⟩
   refine zN 6 ?_;refine vv jm ?_;refine sa 3 sJ kQ ?_;intro XW og;refine zN 6 ?_;have o8:=og.aU [5,4,3,2,1,0];rw [show fJ ⟨ro,ep,fr,tg,rd,l⟩=(⟨0,0,0,0,0,[]⟩,14) from by unfold fJ;(try dsimp only);exact kL];exact ⟨none,0,mh,rfl,aB o8⟩
  rw [decide_eq_false hsv] at HC;refine dL eQ (HC _ (St.rd 2 S8 rfl)) ?_;rintro _ w38 ⟨rfl,ZX⟩;refine ⟨_,rfl,?_⟩;have CY:=S8.on ZX;clear ZX S8;refine zN 7 ?_;refine dL eQ (jl ro ep fr tg rd A c l _ (St.rd 2 CY rfl) hb) ?_;rintro _ w43 ⟨A41,c42,rfl,T45⟩;refine ⟨_,rfl,?_⟩;have yO:=CY.ext T45 rfl;refine sa 1 yO kQ ?_;intro Ub vJ;refine zN 6 ?_;have pW:=vJ.aU [3,2,1];have hcp:=(dP (pW.own 0 rfl)).1;have u6:=pW.bC 0 rfl;rw [show fJ ⟨ro,ep,fr,tg,rd,l⟩=(⟨ro,ep,fr,tg,rd,l⟩,0) from by unfold fJ;(try dsimp only);exact kL];exact ⟨A41,c42,mh,rfl,u6⟩
 refine zN 6 ?_;refine vv jm ?_;refine zQ ?_;refine sa 0 S8 kQ ?_;intro Pf uh;refine zN 6 ?_;have oh:=uh.aU [2,1,0];rw [show fJ ⟨ro,ep,fr,tg,rd,l⟩=(⟨0,0,0,0,0,[]⟩,aj ⟨ro,ep,fr,tg,rd,l⟩) from by unfold fJ;(try dsimp only);exact kL];exact ⟨none,0,mh,rfl,aB oh⟩
theorem SY (ro ep fr tg rd:Int) (A:Option Addr) (c:Nat) (l:List Ev) (x:Ev) (w:World) (h:Rd w w.heap.size 6 A l.length (bn l)) (hb:l.length*48<=reachBytes):
    Calls tP 129 #[.agg #[iV ro,iV ep,iV fr,iV tg,iV rd,.slice A l.length c],.agg #[iV x.kind,iV x.producer,iV x.id,iV x.body,iV x.aL,iV x.hno]] w (ZT w (iK ⟨ro,ep,fr,tg,rd,l⟩ x)):=by
 have S:=(St.start w).bX h;have hb2:=hb;unfold reachBytes at hb2;refine gK 80 Tryz.func129 ?_;refine cw [0,1] ?_;refine zN 2 ?_;refine iT S ?_;intro b1 w2 S3;refine iT S3 ?_;intro b4 w5 S6;refine fT S6 fM ?_;intro b7 w8 S9;refine fT S9 sS ?_;intro b10 EW kP;refine zN 8 ?_;refine cab eQ kP (dS ro ep fr tg rd A c l _ (St.rd 4 kP rfl) oQ) ?_;intro Ce jP;refine zN 6 ?_;by_cases h16:aj ⟨ro,ep,fr,tg,rd,l⟩=0
 ·have hsh:=(eH h16).1;unfold bD at hsh;have hln:=gG (eH h16).2;dsimp only at hsh hln;refine zN 10 ?_;refine cab eQ jP (GX x _) ?_;intro Kt iU;refine zN 6 ?_;by_cases h20:bL x=0
  ·refine zN 11 ?_;by_cases hk4:x.kind=4
   ·refine zN 6 ?_;refine vv jm ?_;refine zQ ?_;refine sa 1 iU kQ ?_;intro CW iM;refine sa 0 iM kQ ?_;intro Jj jq;refine zN 6 ?_;refine bQ (rs:=[.cell 4 150,.cell 5 48,.tmp 6,.tmp 7]) (vs:=[.agg zB,.agg #[iV 0,iV 0,iV 0,iV 0],.bool false,iV 3]) rfl ⟨⟨_,rfl,dG 1 jq rfl Tryz.underlying150 rfl kQ⟩,⟨_,rfl,dG 0 jq rfl Tryz.underlying48 rfl kQ⟩,rfl,rfl,trivial⟩ ?_;have iy:=jq.aU [4,3,2,1,0];rw [show iK ⟨ro,ep,fr,tg,rd,l⟩ x=(⟨0,0,0,0,0,[]⟩,⟨0,0,0,0⟩,false,3) from by unfold iK;(try dsimp only);exact kL];exact ⟨none,0,mh,rfl,aB iy⟩
   refine zN 12 ?_;by_cases h26:ro=3
   ·refine zN 8 ?_;refine dL eQ (jl ro ep fr tg rd A c l _ (St.rd 4 iU rfl) hb) ?_;rintro _ XZ ⟨A27,c28,rfl,T31⟩;refine ⟨_,rfl,?_⟩;have uq:=iU.ext T31 rfl;refine vv (v:= .agg #[iV 12,iV 0,iV 0,iV 0]) gB ?_;refine sa 2 uq kQ ?_;intro w32 kE;refine sa 1 kE kQ ?_;intro w34 uj;refine zN 7 ?_;refine bQ (rs:=[.cell 4 150,.cell 5 48,.tmp 6,.tmp 7]) (vs:=[.agg #[iV ro,iV ep,iV fr,iV tg,iV rd,.slice A27 l.length c28],.agg #[iV 12,iV 0,iV 0,iV 0],.bool false,iV 0]) rfl ⟨⟨_,rfl,dG 2 uj rfl Tryz.underlying150 rfl kQ⟩,⟨_,rfl,dG 1 uj rfl Tryz.underlying48 rfl kQ⟩,rfl,rfl,trivial⟩ ?_;have og:=uj.aU [5,4,3,2,1];have hcp:=(dP (og.own 0 rfl)).1;have o8:=og.bC 0 rfl;rw [show iK ⟨ro,ep,fr,tg,rd,l⟩ x=(⟨ro,ep,fr,tg,rd,l⟩,⟨12,0,0,0⟩,false,0) from by unfold iK;(try dsimp only);exact kL];exact ⟨A27,c28,mh,rfl,o8⟩
   refine zN 8 ?_;have HC:=λ(w:World) (h:Rd w w.heap.size 6 A l.length (bn l))=>C9 ro ep fr tg rd A c l w h oQ;by_cases hsv:ro=1\/ro=2
   ·rw [decide_eq_true hsv] at HC;refine dL eQ (HC _ (St.rd 4 iU rfl)) ?_;rintro _ w38 ⟨rfl,ZX⟩;refine ⟨_,rfl,?_⟩;have CY:=iU.on ZX;clear ZX iU;refine zN 12 ?_;refine dL eQ (E5 A c l _ (St.rd 4 CY rfl) oQ) ?_;rintro _ w45 ⟨A41,c42,A43,c44,rfl,T47⟩;refine ⟨_,rfl,?_⟩;have sN:=CY.ext T47 rfl;refine zN 3 ?_;refine iD (V:=λb=>pV b 0) (row:=cZ 0 0 0 (.slice none 0 0) (.slice none 0 0) jF) (t:=224) sN (wn rfl) rfl rfl (fD rfl (Tryz.zeroValue224 _) rfl) ?_;intro X6 w49 wZ;refine saq 0 wZ kQ ?_;intro Zm oh;refine zN 7 ?_;obtain ⟨R,hR⟩: ∃ R,jS (aP l).1 x=R:=⟨_,rfl⟩;have hql:=V8 (l:=l);have HD:=λA1 A2 c1 c2 w h1 h2=>wD (aP l).1.ep (aP l).1.nx (aP l).1.gv x.kind x.producer x.id x.body x.aL x.hno A1 A2 c1 c2 (aP l).1.ready (aP l).1.bH (aP l).1.ws w h1 h2 hQ hQ;rw [show jS ⟨(aP l).1.ep,(aP l).1.nx,(aP l).1.gv,(aP l).1.ready,(aP l).1.bH,(aP l).1.ws⟩ ⟨x.kind,x.producer,x.id,x.body,x.aL,x.hno⟩=R from hR] at HD;refine dL eQ (HD A41 A43 c42 c44 _ (St.bI 1 oh rfl) (St.bI 2 oh rfl)) ?_;rintro _ w57 ⟨A53,c54,A55,c56,rfl,T59⟩;refine ⟨_,rfl,?_⟩;have um:=oh.ext T59 rfl;clear HD;refine zN 5 ?_;refine iD (V:=λb=>pV b 0) (row:=cZ 0 0 0 (.slice none 0 0) (.slice none 0 0) jF) (t:=224) um (wn rfl) rfl rfl (fD rfl (Tryz.zeroValue224 _) rfl) ?_;intro b60 w61 Jk;refine fT Jk sS ?_;intro b63 Uc yN;refine saq 1 yN kQ ?_;intro Pg qO;refine sa 0 qO kQ ?_;intro w68 tN;refine zN 8 ?_
    cases hch:R.2.2.1
    ·refine zN 5 ?_;have r9:=tN.drew;refine aF 7 r9 [8,7] ?_;refine aI 2 ?_;refine aY 1 ?_;refine j5 1 rfl eQ (jl ro ep fr tg rd A c l _ (St.rd 11 r9 rfl) hb) ?_;rintro _ w75 ⟨A73,c74,rfl,T77⟩;refine ⟨_,rfl,?_⟩;have Lv:=r9.ext T77 rfl;refine dJ ?_;refine aY 3 ?_;refine sn 3 rfl 9 Lv kQ ?_;intro w78 zJ;refine dJ ?_;refine aY 4 ?_;refine sn 4 rfl 8 zJ kQ ?_;intro w80 tO;refine aI 4 ?_;refine zN 3 ?_;refine bQ (rs:=[.cell 4 150,.cell 5 48,.tmp 6,.tmp 7]) (vs:=[.agg #[iV ro,iV ep,iV fr,iV tg,iV rd,.slice A73 l.length c74],.agg #[iV R.2.1.code,iV R.2.1.iC,iV R.2.1.hno,iV R.2.1.body],.bool false,iV 0]) rfl ⟨⟨_,rfl,dG 9 tO rfl Tryz.underlying150 rfl kQ⟩,⟨_,rfl,dG 8 tO rfl Tryz.underlying48 rfl kQ⟩,rfl,rfl,trivial⟩ ?_;have CZ:=tO.aU [12,11,10,9,8,7,6,5,4,3,2,1];have hcp:=(dP (CZ.own 0 rfl)).1;have Jo:=CZ.bC 0 rfl;rw [JR (b:=⟨ro,ep,fr,tg,rd,l⟩) (e:=x) h16 h20 hk4 hsv,hR];rw [if_pos hch];exact ⟨A73,c74,mh,rfl,Jo⟩
    refine zN 12 ?_;by_cases arp:1999<=l.length
    ·refine zN 7 ?_;refine dL eQ (jl ro ep fr tg rd A c l _ (St.rd 11 tN rfl) hb) ?_;rintro _ w88 ⟨A86,c87,rfl,T90⟩;refine ⟨_,rfl,?_⟩;have Lx:=tN.ext T90 rfl;refine vv (v:= .agg #[iV 14,iV 0,iV 0,iV 0]) gB ?_;refine sa 9 Lx kQ ?_;intro w91 yL;refine sa 8 yL kQ ?_;intro w93 GJ;refine zN 6 ?_;refine bQ (rs:=[.cell 4 150,.cell 5 48,.tmp 6,.tmp 7]) (vs:=[.agg #[iV ro,iV ep,iV fr,iV tg,iV rd,.slice A86 l.length c87],.agg #[iV 14,iV 0,iV 0,iV 0],.bool false,iV 0]) rfl ⟨⟨_,rfl,dG 9 GJ rfl Tryz.underlying150 rfl kQ⟩,⟨_,rfl,dG 8 GJ rfl Tryz.underlying48 rfl kQ⟩,rfl,rfl,trivial⟩ ?_;have F3:=GJ.aU [12,11,10,9,8,7,6,5,4,3,2,1];have hcp:=(dP (F3.own 0 rfl)).1;have EZ:=F3.bC 0 rfl;rw [JR (b:=⟨ro,ep,fr,tg,rd,l⟩) (e:=x) h16 h20 hk4 hsv,hR];rw [if_neg (by rw [hch];simp),if_pos arp];exact ⟨A86,c87,mh,rfl,EZ⟩
    refine zN 7 ?_;have Cc:=tN.drew;refine aF 9 Cc [8,7] ?_;refine aI 3 ?_;refine aY 2 ?_;refine FN 2 rfl Cc ?_;intro alO alP qU;refine dJ ?_;refine aY 3 ?_;refine j5 3 rfl eQ (q9 ro ep fr tg rd A c l (aD alO 0) 1 [x] _ (St.rd 12 qU rfl) (St.lI (xs:=bn [x]) 0 qU rfl rfl rfl) (by simp only [List.length_cons,List.length_nil];unfold reachBytes;omega)) ?_;rintro _ Zg ⟨ZY,c105,rfl,ayp⟩;refine ⟨_,rfl,?_⟩;have xX:=qU.ext ayp rfl;refine dJ ?_;refine aY 5 ?_;refine sn 5 rfl 10 xX kQ ?_;intro Ze qP;refine dJ ?_;refine aY 6 ?_;refine sn 6 rfl 9 qP kQ ?_;intro Z0 vP;refine aI 4 ?_;refine zN 2 ?_;refine bQ (rs:=[.cell 4 150,.cell 5 48,.tmp 6,.tmp 7]) (vs:=[.agg #[iV ro,iV ep,iV fr,iV tg,iV rd,.slice ZY ((l++[x]).length) c105],.agg #[iV R.2.1.code,iV R.2.1.iC,iV R.2.1.hno,iV R.2.1.body],.bool true,iV 0]) rfl ⟨⟨_,rfl,dG 10 vP rfl Tryz.underlying150 rfl kQ⟩,⟨_,rfl,dG 9 vP rfl Tryz.underlying48 rfl kQ⟩,rfl,rfl,trivial⟩ ?_;have qQ:=vP.aU [13,12,11,10,9,8,7,6,5,4,3,2,1];have hcp:=(dP (qQ.own 0 rfl)).1;have yh:=qQ.bC 0 rfl;rw [JR (b:=⟨ro,ep,fr,tg,rd,l⟩) (e:=x) h16 h20 hk4 hsv,hR];rw [if_neg (by rw [hch];simp),if_neg arp];exact ⟨ZY,c105,mh,rfl,yh⟩
   rw [decide_eq_false hsv] at HC;refine dL eQ (HC _ (St.rd 4 iU rfl)) ?_;rintro _ Z4 ⟨rfl,akr⟩;refine ⟨_,rfl,?_⟩;have vR:=iU.on akr;clear akr iU;refine zN 8 ?_;refine dL eQ (jl ro ep fr tg rd A c l _ (St.rd 4 vR rfl) hb) ?_;rintro _ alH ⟨ars,aru,rfl,ayq⟩;refine ⟨_,rfl,?_⟩;have zo:=vR.ext ayq rfl;refine vv (v:= .agg #[iV 7,iV 0,iV 0,iV 0]) gB ?_;refine sa 2 zo kQ ?_;intro alQ xk;refine sa 1 xk kQ ?_;intro Zf xU;refine zN 7 ?_;refine bQ (rs:=[.cell 4 150,.cell 5 48,.tmp 6,.tmp 7]) (vs:=[.agg #[iV ro,iV ep,iV fr,iV tg,iV rd,.slice ars l.length aru],.agg #[iV 7,iV 0,iV 0,iV 0],.bool false,iV 0]) rfl ⟨⟨_,rfl,dG 2 xU rfl Tryz.underlying150 rfl kQ⟩,⟨_,rfl,dG 1 xU rfl Tryz.underlying48 rfl kQ⟩,rfl,rfl,trivial⟩ ?_;have zx:=xU.aU [5,4,3,2,1];have hcp:=(dP (zx.own 0 rfl)).1;have Z5:=zx.bC 0 rfl;rw [show iK ⟨ro,ep,fr,tg,rd,l⟩ x=(⟨ro,ep,fr,tg,rd,l⟩,⟨7,0,0,0⟩,false,0) from by unfold iK;(try dsimp only);exact kL];exact ⟨ars,aru,mh,rfl,Z5⟩
  refine zN 6 ?_;refine vv jm ?_;refine zN 2 ?_;refine sa 1 iU kQ ?_;intro af2 xV;refine sa 0 xV kQ ?_;intro ZG zq;refine zN 6 ?_;refine bQ (rs:=[.cell 4 150,.cell 5 48,.tmp 6,.tmp 7]) (vs:=[.agg zB,.agg #[iV 0,iV 0,iV 0,iV 0],.bool false,iV (bL x)]) rfl ⟨⟨_,rfl,dG 1 zq rfl Tryz.underlying150 rfl kQ⟩,⟨_,rfl,dG 0 zq rfl Tryz.underlying48 rfl kQ⟩,rfl,rfl,trivial⟩ ?_;have K8:=zq.aU [4,3,2,1,0];rw [show iK ⟨ro,ep,fr,tg,rd,l⟩ x=(⟨0,0,0,0,0,[]⟩,⟨0,0,0,0⟩,false,bL x) from by unfold iK;(try dsimp only);exact kL];exact ⟨none,0,mh,rfl,aB K8⟩
 refine zN 6 ?_;refine vv jm ?_;refine zN 2 ?_;refine sa 1 jP kQ ?_;intro ZO Er;refine sa 0 Er kQ ?_;intro ayr FZ;refine zN 6 ?_;refine bQ (rs:=[.cell 4 150,.cell 5 48,.tmp 6,.tmp 7]) (vs:=[.agg zB,.agg #[iV 0,iV 0,iV 0,iV 0],.bool false,iV (aj ⟨ro,ep,fr,tg,rd,l⟩)]) rfl ⟨⟨_,rfl,dG 1 FZ rfl Tryz.underlying150 rfl kQ⟩,⟨_,rfl,dG 0 FZ rfl Tryz.underlying48 rfl kQ⟩,rfl,rfl,trivial⟩ ?_;have FT:=FZ.aU [4,3,2,1,0];rw [show iK ⟨ro,ep,fr,tg,rd,l⟩ x=(⟨0,0,0,0,0,[]⟩,⟨0,0,0,0⟩,false,aj ⟨ro,ep,fr,tg,rd,l⟩) from by unfold iK;(try dsimp only);exact kL];exact ⟨none,0,mh,rfl,aB FT⟩
theorem Ww (ro ep fr tg rd:Int) (A:Option Addr) (c:Nat) (l:List Ev) (hv:Int) (hlc:l.length<=c) (w:World) (h:Rd w w.heap.size 6 A l.length (bn l)) (hb:l.length*48<=reachBytes):
    Calls tP 158 #[.agg #[iV ro,iV ep,iV fr,iV tg,iV rd,.slice A l.length c],iV hv] w (Q8 w (jD ⟨ro,ep,fr,tg,rd,l⟩ hv)):=by
 have S:=(St.start w).bX h;have hb2:=hb;unfold reachBytes at hb2;refine gK 53 Tryz.func158 ?_;refine cw [0,1] ?_;refine zN 2 ?_;refine iT S ?_;intro b1 w2 S3;refine zN 9 ?_;refine cab eQ S3 (dS ro ep fr tg rd A c l _ (St.rd 1 S3 rfl) oQ) ?_;intro w4 S5;refine zN 6 ?_;by_cases h7:aj ⟨ro,ep,fr,tg,rd,l⟩=0
 ·have hsh:=(eH h7).1;unfold bD at hsh;have hln:=gG (eH h7).2;dsimp only at hsh hln;refine zN 11 ?_;by_cases h8:ro=2
  ·refine zN 15 ?_;by_cases h9:hv<0
   ·refine zN 21 ?_;have nN:=S5.aU [1,0];rw [show jD ⟨ro,ep,fr,tg,rd,l⟩ hv=([],false,2) from by unfold jD;(try dsimp only);exact kL];exact ⟨none,0,Nat.zero_le _,rfl,aB nN⟩
   refine zN 6 ?_;by_cases h11:((l.length:Nat):Int)<hv
   ·refine zN 15 ?_;have kP:=S5.aU [1,0];rw [show jD ⟨ro,ep,fr,tg,rd,l⟩ hv=([],false,2) from by unfold jD;(try dsimp only);exact kL];exact ⟨none,0,Nat.zero_le _,rfl,aB kP⟩
   refine zN 8 ?_;obtain ⟨k,rfl⟩: ∃ k:Nat,hv=k:=⟨hv.toNat,by omega⟩;obtain ⟨m,hm⟩: ∃ m,min (k+3) l.length=k+m:=⟨min (k+3) l.length-k,by omega⟩;refine zN 2 ?_;refine vv (v:=iV ((k+3:Nat):Int)) j6 ?_;refine zN 3 ?_;refine vv (v:=iV ((k+m:Nat):Int)) (cu (vs:=[iV ((k+3:Nat):Int),iV ((l.length:Nat):Int)]) rfl wT λ_=>by rw [TR,hm]) ?_;refine zN 3 ?_;obtain ⟨A13,alR,ays,aHk⟩:=ES (P:=tP) (t:=121) (enc:=Ev.cells) (s:=6) (λ_=>rfl) (A:=A) (b:=l) (n:=l.length) (c:=c) (lo:=(some (iV ((k:Nat):Int)))) (hi:=(some (iV ((k+m:Nat):Int)))) (mx:=none) (l:=k) (k:=k+m) (q:=c) (m:=m) (c':=c-k) Tryz.underlying121 kQ (Uy k (k+m) rfl rfl oQ oQ) oQ oQ oQ oQ oQ;have kR:=S5.bX (ays _ _ (S5.all 1 _ rfl));by_cases hr3:ro=3
   ·by_cases hend:((k+m:Nat):Int)=((l.length:Nat):Int)
    ·refine zQ ?_;have iU:=kR.drew;refine aF 19 iU [] ?_;refine aI 4 ?_;refine ak (v:= .slice A13 m (c-k)) 4 rfl iU (λ_ _=>(jA rfl rfl (jd rfl) (jd rfl) lH (alR _))) ?_;refine aI 3 ?_;refine aY 5 ?_;refine j5 5 rfl eQ (l6 A13 m (c-k) _ _ (St.rd 0 iU rfl) (fB _) hQ) ?_;rintro _ T9 ⟨A27,c28,rfl,agj,ayt⟩;refine ⟨_,rfl,?_⟩;have pX:=iU.tV agj ayt;refine aI 12 ?_;refine zN 3 ?_;have qM:=pX.aU [3,2,1];have hcp:=(dP (qM.own 0 rfl)).1;have yO:=qM.bC 0 rfl;have hlm:((l.drop k).take m).length=m:=by rw [List.length_take,List.length_drop];omega
     rw [Av (b:=⟨ro,ep,fr,tg,rd,l⟩) h7 uQ uQ hm];dsimp only;rw [decide_eq_true ⟨hr3,by omega⟩];refine ⟨A27,c28,?_,?_,?_⟩
     · dsimp only;rw [hlm];exact hcp
     · dsimp only;rw [hlm];rfl
     · dsimp only;rw [hlm];exact yO
    refine zQ ?_;have oP:=kR.drew;refine aF 19 oP [] ?_;refine aI 4 ?_;refine ak (v:= .slice A13 m (c-k)) 4 rfl oP (λ_ _=>(jA rfl rfl (jd rfl) (jd rfl) lH (alR _))) ?_;refine aI 3 ?_;refine aY 5 ?_;refine j5 5 rfl eQ (l6 A13 m (c-k) _ _ (St.rd 0 oP rfl) (fB _) hQ) ?_;rintro _ w58 ⟨A54,c55,rfl,ayu,ayv⟩;refine ⟨_,rfl,?_⟩;have Bl:=oP.tV ayu ayv;refine aI 12 ?_;refine zN 3 ?_;have r9:=Bl.aU [3,2,1];have hcp:=(dP (r9.own 0 rfl)).1;have sK:=r9.bC 0 rfl;have hlm:((l.drop k).take m).length=m:=by rw [List.length_take,List.length_drop];omega
    rw [Av (b:=⟨ro,ep,fr,tg,rd,l⟩) h7 uQ uQ hm];dsimp only;rw [decide_eq_false (λh=>hend oQ)];refine ⟨A54,c55,?_,?_,?_⟩
    · dsimp only;rw [hlm];exact hcp
    · dsimp only;rw [hlm];rfl
    · dsimp only;rw [hlm];exact sK
   refine zQ ?_;have Ca:=kR.drew;refine aF 19 Ca [] ?_;refine aI 4 ?_;refine ak (v:= .slice A13 m (c-k)) 4 rfl Ca (λ_ _=>(jA rfl rfl (jd rfl) (jd rfl) lH (alR _))) ?_;refine aI 3 ?_;refine aY 5 ?_;refine j5 5 rfl eQ (l6 A13 m (c-k) _ _ (St.rd 0 Ca rfl) (fB _) hQ) ?_;rintro _ w85 ⟨A81,c82,rfl,ayw,ayx⟩;refine ⟨_,rfl,?_⟩;have yQ:=Ca.tV ayw ayx;refine aI 12 ?_;refine zN 3 ?_;have yL:=yQ.aU [3,2,1];have hcp:=(dP (yL.own 0 rfl)).1;have yZ:=yL.bC 0 rfl;have hlm:((l.drop k).take m).length=m:=by rw [List.length_take,List.length_drop];omega
   rw [Av (b:=⟨ro,ep,fr,tg,rd,l⟩) h7 uQ uQ hm];dsimp only;rw [decide_eq_false (λh=>hr3 h.1)];refine ⟨A81,c82,?_,?_,?_⟩
   · dsimp only;rw [hlm];exact hcp
   · dsimp only;rw [hlm];rfl
   · dsimp only;rw [hlm];exact yZ
  refine zN 4 ?_;by_cases h94:ro=3
  ·refine zN 11 ?_;by_cases h95:hv<0
   ·refine zN 21 ?_;have EZ:=S5.aU [1,0];rw [show jD ⟨ro,ep,fr,tg,rd,l⟩ hv=([],false,2) from by unfold jD;(try dsimp only);exact kL];exact ⟨none,0,Nat.zero_le _,rfl,aB EZ⟩
   refine zN 6 ?_;by_cases h97:((l.length:Nat):Int)<hv
   ·refine zN 15 ?_;have Bo:=S5.aU [1,0];rw [show jD ⟨ro,ep,fr,tg,rd,l⟩ hv=([],false,2) from by unfold jD;(try dsimp only);exact kL];exact ⟨none,0,Nat.zero_le _,rfl,aB Bo⟩
   refine zN 8 ?_;obtain ⟨k,rfl⟩: ∃ k:Nat,hv=k:=⟨hv.toNat,by omega⟩;obtain ⟨m,hm⟩: ∃ m,min (k+3) l.length=k+m:=⟨min (k+3) l.length-k,by omega⟩;refine zN 2 ?_;refine vv (v:=iV ((k+3:Nat):Int)) j6 ?_;refine zN 3 ?_;refine vv (v:=iV ((k+m:Nat):Int)) (cu (vs:=[iV ((k+3:Nat):Int),iV ((l.length:Nat):Int)]) rfl wT λ_=>by rw [TR,hm]) ?_;refine zN 3 ?_;obtain ⟨ZM,ab2,atQ,aDc⟩:=ES (P:=tP) (t:=121) (enc:=Ev.cells) (s:=6) (λ_=>rfl) (A:=A) (b:=l) (n:=l.length) (c:=c) (lo:=(some (iV ((k:Nat):Int)))) (hi:=(some (iV ((k+m:Nat):Int)))) (mx:=none) (l:=k) (k:=k+m) (q:=c) (m:=m) (c':=c-k) Tryz.underlying121 kQ (Uy k (k+m) rfl rfl oQ oQ) oQ oQ oQ oQ oQ;have qU:=S5.bX (atQ _ _ (S5.all 1 _ rfl));by_cases hr3:ro=3
   ·by_cases hend:((k+m:Nat):Int)=((l.length:Nat):Int)
    ·refine zQ ?_;have yj:=qU.drew;refine aF 19 yj [] ?_;refine aI 4 ?_;refine ak (v:= .slice ZM m (c-k)) 4 rfl yj (λ_ _=>(jA rfl rfl (jd rfl) (jd rfl) lH (ab2 _))) ?_;refine aI 3 ?_;refine aY 5 ?_;refine j5 5 rfl eQ (l6 ZM m (c-k) _ _ (St.rd 0 yj rfl) (fB _) hQ) ?_;rintro _ Z4 ⟨ayy,ayz,rfl,atS,atT⟩;refine ⟨_,rfl,?_⟩;have vR:=yj.tV atS atT;refine aI 12 ?_;refine zN 3 ?_;have zx:=vR.aU [3,2,1];have hcp:=(dP (zx.own 0 rfl)).1;have Z5:=zx.bC 0 rfl;have hlm:((l.drop k).take m).length=m:=by rw [List.length_take,List.length_drop];omega
     rw [Av (b:=⟨ro,ep,fr,tg,rd,l⟩) h7 uQ uQ hm];dsimp only;rw [decide_eq_true ⟨hr3,by omega⟩];refine ⟨ayy,ayz,?_,?_,?_⟩
     · dsimp only;rw [hlm];exact hcp
     · dsimp only;rw [hlm];rfl
     · dsimp only;rw [hlm];exact Z5
    refine zQ ?_;have yt:=qU.drew;refine aF 19 yt [] ?_;refine aI 4 ?_;refine ak (v:= .slice ZM m (c-k)) 4 rfl yt (λ_ _=>(jA rfl rfl (jd rfl) (jd rfl) lH (ab2 _))) ?_;refine aI 3 ?_;refine aY 5 ?_;refine j5 5 rfl eQ (l6 ZM m (c-k) _ _ (St.rd 0 yt rfl) (fB _) hQ) ?_;rintro _ af3 ⟨ayA,c141,rfl,atU,atV⟩;refine ⟨_,rfl,?_⟩;have K5:=yt.tV atU atV;refine aI 12 ?_;refine zN 3 ?_;have Z6:=K5.aU [3,2,1];have hcp:=(dP (Z6.own 0 rfl)).1;have alS:=Z6.bC 0 rfl;have hlm:((l.drop k).take m).length=m:=by rw [List.length_take,List.length_drop];omega
    rw [Av (b:=⟨ro,ep,fr,tg,rd,l⟩) h7 uQ uQ hm];dsimp only;rw [decide_eq_false (λh=>hend oQ)];refine ⟨ayA,c141,?_,?_,?_⟩
    · dsimp only;rw [hlm];exact hcp
    · dsimp only;rw [hlm];rfl
    · dsimp only;rw [hlm];exact alS
   refine zQ ?_;have IB:=qU.drew;refine Du (C:=λw'=>St w.heap.size w w' [.rd 6 ZM m (((l.drop k).take m).flatMap Ev.cells),.blk b1 #[iV ro,iV ep,iV fr,iV tg,iV rd,.slice A l.length c] 150,.rd 6 A l.length ((l).flatMap Ev.cells)]) (n:=19) (listed:= #[false,false,false,false,false,false,false,false,false,false,false,false,false,false,false,false,false,false,false]) mixed rfl rfl ?_;refine ak (v:=pV b1 5) 0 rfl IB (λ_ _=>vH _ acj) ?_;refine ak (v:= .slice A l.length c) 1 rfl IB (λ_ ab3=>(ah rfl rfl (aG (St.cl 1 ab3 rfl rfl)))) ?_;refine ak (v:=iV ((k:Nat):Int)) 2 rfl IB (λ_ _=>ym) ?_;refine ak (v:=iV ((k+m:Nat):Int)) 3 rfl IB (λ_ _=>ym) ?_;refine ak (v:= .slice ZM m (c-k)) 4 rfl IB (λ_ _=>(jA rfl rfl (jd rfl) (jd rfl) lH (ab2 _))) ?_;refine ak (v:=pV b1 0) 6 rfl IB (λ_ _=>vH _ aci) ?_;refine ak (v:=iV ro) 7 rfl IB (λ_ atW=>(ah rfl rfl (aG (St.cl 1 atW rfl rfl)))) ?_;refine ak (v:= .bool false) 8 rfl IB (λ_ _=>abV hr3) ?_;refine aY 5 ?_;refine j5 5 rfl eQ (l6 ZM m (c-k) _ _ (St.rd 0 IB rfl) (fB _) hQ) ?_;rintro _ ayd ⟨arv,c168,rfl,atX,atY⟩;refine ⟨_,rfl,?_⟩;have yg:=IB.tV atX atY;refine ⟨(St.del 0 yg),?_⟩;refine ak (v:= .bool false) 9 rfl (St.del 0 yg) (λ_ _=>ym) ?_;refine zZ (i:=10) (n:=8) rfl kQ kQ kQ (St.del 0 yg) rfl (wg rfl rfl rfl rfl) rfl rfl ?_;refine zZ (i:=11) (n:=7) rfl kQ kQ kQ (St.del 0 yg) rfl (wg rfl rfl rfl rfl) rfl rfl ?_;refine zZ (i:=12) (n:=6) rfl kQ kQ kQ (St.del 0 yg) rfl (wg rfl rfl rfl rfl) rfl rfl ?_;refine zZ (i:=13) (n:=5) rfl kQ kQ kQ (St.del 0 yg) rfl (wg rfl rfl rfl rfl) rfl rfl ?_;refine zZ (i:=14) (n:=4) rfl kQ kQ kQ (St.del 0 yg) rfl (wg rfl rfl rfl rfl) rfl rfl ?_;refine ak (v:= .bool false) 15 rfl (St.del 0 yg) (λ_ _=>Lu) ?_;refine ak (v:= .slice arv m c168) 16 rfl (St.del 0 yg) (λ_ _=>ya) ?_;refine ak (v:= .bool false) 17 rfl (St.del 0 yg) (λ_ _=>ya) ?_;refine ak (v:=iV 0) 18 rfl (St.del 0 yg) (λ_ _=>ya) ?_;refine dJ ?_;refine zN 3 ?_;have UK:=yg.aU [3,2,1];have hcp:=(dP (UK.own 0 rfl)).1;have ayB:=UK.bC 0 rfl;have hlm:((l.drop k).take m).length=m:=by rw [List.length_take,List.length_drop];omega
   rw [Av (b:=⟨ro,ep,fr,tg,rd,l⟩) h7 uQ uQ hm];dsimp only;rw [decide_eq_false (λh=>hr3 h.1)];refine ⟨arv,c168,?_,?_,?_⟩
   · dsimp only;rw [hlm];exact hcp
   · dsimp only;rw [hlm];rfl
   · dsimp only;rw [hlm];exact ayB
  refine zN 15 ?_;have Z7:=S5.aU [1,0];rw [show jD ⟨ro,ep,fr,tg,rd,l⟩ hv=([],false,7) from by unfold jD;(try dsimp only);exact kL];exact ⟨none,0,Nat.zero_le _,rfl,aB Z7⟩
 refine zN 15 ?_;have Zj:=S5.aU [1,0];rw [show jD ⟨ro,ep,fr,tg,rd,l⟩ hv=([],false,aj ⟨ro,ep,fr,tg,rd,l⟩) from by unfold jD;(try dsimp only);exact kL];exact ⟨none,0,Nat.zero_le _,rfl,aB Zj⟩
def Jp (b:bK) (ep:Int) (d:Nat) (l:List Ev) (last:Bool):bK:=if last=true then ⟨1,ep,0,0,0,b.evs++l.drop d++[cO]⟩ else { b with evs:=b.evs++l.drop d }
theorem Ra {b:bK} {ep:Int} {d:Nat} {l:List Ev}:Jp b ep d l true=⟨1,ep,0,0,0,b.evs++l.drop d++[cO]⟩:=rfl
theorem Rb {b:bK} {ep:Int} {d:Nat} {l:List Ev}:Jp b ep d l false={ b with evs:=b.evs++l.drop d }:=rfl
theorem E9 {b:bK} {ep:Int} {k:Nat} {K:List Ev} {last:Bool} (h:aj b=0) (hr:b.role=4) (he:b.ep=ep) (hk:k<=b.evs.length):dw b ep k K last=
  if ¬ (b.evs.drop k).take K.length=K.take (b.evs.length-k) then (bG,3) else if last=true/\k+K.length<b.evs.length then (bG,3)
  else if aj (Jp b ep (b.evs.length-k) K last)≠0 then (bG,3) else (Jp b ep (b.evs.length-k) K last,0):=by
 unfold dw Jp;rw [if_neg (λh1=>h1 h),if_neg (λh1=>h1 hr),if_neg (λh1=>h1 he),if_neg oQ,Int.toNat_natCast]
section
variable {l K:List Ev} {k d p i:Nat}
theorem aiT (hd:l.length=k+d) (hp:min d K.length=p):((l.drop k).take K.length=K.take d)↔((l.drop k).take p=K.take p):=by
 have e1:(l.drop k).take K.length=(l.drop k).take p:=by rw [List.take_eq_take_iff,List.length_drop];omega
 have e2:K.take d=K.take p:=by rw [List.take_eq_take_iff];omega
 rw [e1,e2]
theorem aeE (hp:min d K.length=p):K.drop p=K.drop d:=by
 rcases Nat.le_total d K.length with h | h
 ·rw [show p=d by omega]
 rw [List.drop_eq_nil_of_le h,List.drop_eq_nil_of_le oQ]
end
theorem aiU {a b:Ev} (h:a=b) (w:World):(binOp .neq 46 (.agg #[iV a.kind,iV a.producer,iV a.id,iV a.body,iV a.aL,iV a.hno])
  (.agg #[iV b.kind,iV b.producer,iV b.id,iV b.body,iV b.aL,iV b.hno])).run tP w= .ok (.bool false) w:=by
 rw [qZ,decide_eq_true h];rfl
theorem aiV {a b:Ev} (h: ¬ a=b) (w:World):(binOp .neq 46 (.agg #[iV a.kind,iV a.producer,iV a.id,iV a.body,iV a.aL,iV a.hno])
  (.agg #[iV b.kind,iV b.producer,iV b.id,iV b.body,iV b.aL,iV b.hno])).run tP w= .ok (.bool true) w:=by
 rw [qZ,decide_eq_false h];rfl
theorem aoT {x y:List Ev} {k:Nat} {a b:Ev} (ha:x[k]? =some a) (hb:y[k]? =some b) (h: ¬ a=b): ¬ x=y:=λe=>by
 rw [e,hb] at ha
 injection ha with h1
 exact h h1.symm
theorem Py (A A':Option Addr) (c c' n:Nat) (xs ys:List Ev) (w:World) (h:Rd w w.heap.size 6 A n (bn xs)) (h':Rd w w.heap.size 6 A' n (bn ys)) (hx:xs.length=n) (hy:ys.length=n) (hn:n<=1152921504606846976):
    Calls tP 159 #[.slice A n c,.slice A' n c'] w (EU w (decide (xs=ys))):=by
 have S:=((St.start w).bX h').bX h;clear h h';refine gK 26 Tryz.func159 ?_;refine cw [0,1] ?_;refine zN 27 ?_;refine eP (X:=Nat) (λxv=>[(0,.slice A n c),(1,.slice A' n c'),(4,.bool false),(12,iV ((n:Nat):Int)),(13,iV ((xv:Nat):Int))]) (λxv wr=>(xv<=n)/\(xs.take xv=ys.take xv)/\St w.heap.size w wr [.rd 6 A n ((xs).flatMap Ev.cells),.rd 6 A' n ((ys).flatMap Ev.cells)]) (λxv=>n-xv) (0) ?_ ?_ ?_
 ·exact ⟨Nat.zero_le _,rfl,S⟩
 ·exact CS
 rintro k w1 ⟨hi3,hi4,S2⟩
 try dsimp only at hi3 hi4 S2
 refine bg (l':=[(0,.slice A n c),(1,.slice A' n c'),(4,.bool false),(12,iV ((n:Nat):Int)),(13,iV ((k:Nat):Int))]) CS (aA (av ?_));by_cases h5:((k:Nat):Int)< ((n:Nat):Int)
 ·refine zN 16 ?_;refine gZ S2 mixed kQ ?_;refine zN 2 ?_;obtain ⟨b8,o9,rfl⟩:=Rd.addr (St.rd 0 S2 rfl) oQ;obtain ⟨x10,UM⟩:=EL k (St.rd 0 S2 rfl) oQ;refine uv (λ_ _=>kY k) ?_;refine uv (v:= .agg #[iV x10.kind,iV x10.producer,iV x10.id,iV x10.body,iV x10.aL,iV x10.hno]) (λ_ Qn=>(ah rfl rfl (dK (cs:=Ev.cells x10) (Rd.vG (St.rd 0 Qn rfl) (λ_ _ h=>bU (enc:=Ev.cells) (sz:=6) (λ_=>rfl) UM h))))) ?_;refine zN 2 ?_;obtain ⟨b16,o17,rfl⟩:=Rd.addr (St.rd 1 S2 rfl) oQ;obtain ⟨x18,Ej⟩:=EL k (St.rd 1 S2 rfl) oQ;refine uv (λ_ _=>kY k) ?_;refine uv (v:= .agg #[iV x18.kind,iV x18.producer,iV x18.id,iV x18.body,iV x18.aL,iV x18.hno]) (λ_ ayC=>(ah rfl rfl (dK (cs:=Ev.cells x18) (Rd.vG (St.rd 1 ayC rfl) (λ_ _ h=>bU (enc:=Ev.cells) (sz:=6) (λ_=>rfl) Ej h))))) ?_;by_cases hev:x10=x18
  ·refine uv (v:= .bool false) (λ_ _=>(aC rfl rfl rfl (Cn kQ (aiU hev _)))) ?_;refine iG λJj jq=>?_;refine zN 6 ?_;refine vv (v:=iV ((k+1:Nat):Int)) j6 ?_;refine zN 2 ?_;refine bT (k+1) ?_ CS (by first | omega | (dsimp only;omega));exact ⟨oQ,(by rw [List.take_add_one,List.take_add_one,hi4,UM,Ej,hev]),jq⟩
  refine uv (v:= .bool true) (λ_ _=>(aC rfl rfl rfl (Cn kQ (aiV hev _)))) ?_;refine iG λJh qx=>?_;refine zN 14 ?_;exact ⟨yX (aoT UM Ej hev),qx.low⟩
 refine zN 17 ?_;obtain rfl:n=k:=oQ;have he:xs=ys:=by rw [<-List.take_of_length_le (Nat.le_of_eq hx),<-List.take_of_length_le (l:=ys) (Nat.le_of_eq hy)];exact hi4
 exact ⟨Y5 he,S2.low⟩
theorem Fa (ro ep fr tg rd:Int) (A:Option Addr) (c:Nat) (l:List Ev) (e at_:Int) (A2:Option Addr) (c2:Nat) (K:List Ev) (last:Bool) (hlc:l.length<=c) (hkc:K.length<=c2) (w:World) (hK:Rd w w.heap.size 6 A2 K.length (bn K)) (h:Rd w w.heap.size 6 A l.length (bn l)) (hb:l.length*48<=reachBytes) (hbK:(K.length+2001)*48<=reachBytes):
    Calls tP 138 #[.agg #[iV ro,iV ep,iV fr,iV tg,iV rd,.slice A l.length c],iV e,iV at_,.slice A2 K.length c2,.bool last] w (kJ w (dw ⟨ro,ep,fr,tg,rd,l⟩ e at_ K last)):=by
 have S:=((St.start w).bX hK).bX h;have hb2:=hb;unfold reachBytes at hb2;refine gK 101 Tryz.func138 ?_;refine cw [0,1,2,3,4] ?_;refine zN 2 ?_;refine iT S ?_;intro b1 w2 S3;refine fT S3 fM ?_;intro b4 w5 S6;refine zN 7 ?_;refine cab eQ S6 (dS ro ep fr tg rd A c l _ (St.rd 2 S6 rfl) oQ) ?_;intro w7 S8;refine zN 7 ?_;by_cases h10:aj ⟨ro,ep,fr,tg,rd,l⟩=0
 ·have hsh:=(eH h10).1;unfold bD at hsh;have hln:=gG (eH h10).2;dsimp only at hsh hln;refine zN 9 ?_;by_cases h11:ro=4
  ·refine zN 10 ?_;by_cases h12:ep=e
   ·refine zN 8 ?_;by_cases oH:at_<0
    ·refine zN 14 ?_;refine vv jm ?_;refine sa 0 S8 kQ ?_;intro LB iW;refine zN 7 ?_;have jR:=iW.aU [3,2,1,0];rw [show dw ⟨ro,ep,fr,tg,rd,l⟩ e at_ K last=(bG,2) from by unfold dw;(try dsimp only);exact kL];exact ⟨none,0,Nat.zero_le _,rfl,aB jR⟩
    refine zN 6 ?_;by_cases uO:((l.length:Nat):Int)<at_
    ·refine zN 8 ?_;refine vv jm ?_;refine sa 0 S8 kQ ?_;intro Jg kM;refine zN 7 ?_;have kD:=kM.aU [3,2,1,0];rw [show dw ⟨ro,ep,fr,tg,rd,l⟩ e at_ K last=(bG,2) from by unfold dw;(try dsimp only);exact kL];exact ⟨none,0,Nat.zero_le _,rfl,aB kD⟩
    refine zN 10 ?_;obtain rfl:ro=4:=oQ;obtain rfl:tg=0:=oQ;obtain rfl:rd=0:=oQ;obtain rfl:e=ep:=oQ;clear hsh;have hbL:(l.length+K.length+1)*48<=reachBytes:=Nat.le_trans (Nat.mul_le_mul_right 48 oQ) hbK;have hb3:=hbL;unfold reachBytes at hb3;obtain ⟨k,rfl⟩: ∃ k:Nat,at_=k:=⟨at_.toNat,by omega⟩;obtain ⟨d,hd⟩: ∃ d,l.length=k+d:=⟨l.length-k,by omega⟩;obtain ⟨p,hp⟩: ∃ p,min d K.length=p:=⟨_,rfl⟩;have hqm:=Lib.hid (aiT (l:=l) (K:=K) hd hp);refine zN 5 ?_;refine vv (v:=iV ((d:Nat):Int)) ysu ?_;refine zN 2 ?_;refine vv (v:=iV ((p:Nat):Int)) (cu (vs:=[iV ((d:Nat):Int),iV ((K.length:Nat):Int)]) rfl wT λ_=>by rw [TR,hp]) ?_;refine zN 4 ?_;obtain ⟨A21,ayD,ayE,aHl⟩:=ES (P:=tP) (t:=121) (enc:=Ev.cells) (s:=6) (λ_=>rfl) (A:=A) (b:=l) (n:=l.length) (c:=c) (lo:=(some (iV ((k:Nat):Int)))) (hi:=(some (iV ((k+p:Nat):Int)))) (mx:=(some (iV ((k+p:Nat):Int)))) (l:=k) (k:=k+p) (q:=k+p) (m:=p) (c':=p) Tryz.underlying121 kQ (acv k (k+p) (k+p) rfl rfl rfl oQ oQ oQ) oQ oQ oQ oQ oQ;have iy:=S8.bX (ayE _ _ (S8.all 2 _ rfl));obtain ⟨ZR,ayF,ayG,aHm⟩:=ES (P:=tP) (t:=121) (enc:=Ev.cells) (s:=6) (λ_=>rfl) (A:=A2) (b:=K) (n:=K.length) (c:=c2) (lo:=none) (hi:=(some (iV ((p:Nat):Int)))) (mx:=(some (iV ((p:Nat):Int)))) (l:=0) (k:=p) (q:=p) (m:=p) (c':=p) Tryz.underlying121 kQ (aj1 p p rfl rfl oQ oQ) oQ oQ oQ oQ oQ;have uq:=iy.bX (ayG _ _ (iy.all 4 _ rfl));have lg:=uq;rw [List.drop_zero] at lg;refine zQ ?_;refine gZ lg mixed kQ ?_;refine zN 5 ?_;refine uv (v:=iV ((k+p:Nat):Int)) (λ_ _=>j6) ?_;refine zN 2 ?_;refine uv (v:=iV ((k+p:Nat):Int)) (λ_ _=>j6) ?_;refine uv (v:= .slice A21 p p) (λ_ _=>(jA rfl rfl (jd rfl) (jd rfl) (jd rfl) (ayD _))) ?_;refine zN 3 ?_;refine uv (v:= .slice ZR p p) (λ_ _=>(jA rfl rfl lH (jd rfl) (jd rfl) (ayF _))) ?_;have HE:=λ(w:World) h h1=>Py A21 ZR p p p ((l.drop k).take p) (K.take p) w h h1 (by rw [List.length_take,List.length_drop];omega) (by rw [List.length_take];omega) oQ;by_cases hq:(l.drop k).take p=K.take p
    ·rw [decide_eq_true hq] at HE;refine Xn (v:= .bool true) (wn rfl) rfl rfl (λ_=>(eF (vs:=[.slice A21 p p,.slice ZR p p]) rfl eQ wT)) (λ_ alT=>(HE _ (St.rd 1 alT rfl) (St.rd 0 alT rfl)).mono λ_ _ h=>⟨h.1,alT.on h.2⟩) ?_;clear HE;refine zQ ?_;refine iG λZL u6=>?_;refine zN 4 ?_;have hpd:=aeE (K:=K) hp;obtain ⟨X4,ayH,ayI,aHn⟩:=ES (P:=tP) (t:=121) (enc:=Ev.cells) (s:=6) (λ_=>rfl) (A:=A2) (b:=K) (n:=K.length) (c:=c2) (lo:=(some (iV ((p:Nat):Int)))) (hi:=none) (mx:=none) (l:=p) (k:=K.length) (q:=c2) (m:=(K.drop d).length) (c':=c2-p) Tryz.underlying121 kQ (afW p rfl oQ) oQ oQ oQ (by rw [List.length_drop];omega) oQ;have lC:=u6.bX (ayI _ _ (u6.all 5 _ rfl));have vI:=lC;rw [hpd,List.take_length] at vI;have hlk:(l++(K.drop d)).length=l.length+(K.length-d):=by simp
     have hw2:((l++(K.drop d)).length+([cO]:List Ev).length)*48<=reachBytes:=by rw [hlk];exact Nat.le_trans (Nat.mul_le_mul_right 48 (by simp only [List.length_cons,List.length_nil];omega)) hbL
     refine mU (X:=Nat×(Option Addr)×Nat) (λxv=>[(1,iV e),(2,iV ((k:Nat):Int)),(3,.slice A2 K.length c2),(4,.bool last),(5,pV b1 0),(10,pV b4 0),(11,iV 0),(14,pV xv.1 0)]) (λxv wr=>St w.heap.size w wr [.blk xv.1 #[iV 4,iV e,iV fr,iV 0,iV 0,.slice xv.2.1 ((l++(K.drop d)).length) xv.2.2] 150,.own 46 6 (.slice xv.2.1 ((l++(K.drop d)).length) xv.2.2) ((l++(K.drop d)).length) ((l++(K.drop d)).flatMap Ev.cells),.rd 6 X4 ((K.drop d).length) ((K.drop d).flatMap Ev.cells),.rd 6 ZR p ((K.take p).flatMap Ev.cells),.rd 6 A21 p (((l.drop k).take p).flatMap Ev.cells),.blk b4 zB 150,.blk b1 #[iV 4,iV e,iV fr,iV 0,iV 0,.slice A l.length c] 150,.rd 6 A l.length ((l).flatMap Ev.cells),.rd 6 A2 K.length ((K).flatMap Ev.cells)]) ?_ ?_
     ·have DJ:=vI.drew;refine eZ 7 6 DJ [] ?_;iterate 3 refine gP ?_
      refine gk (v:= .slice X4 ((K.drop d).length) (c2-p)) 3 rfl DJ (λ_ _=>(jA rfl rfl (jd rfl) lH lH (ayH _))) ?_;refine ach (m:=2) (r:=4) (s:=5) kQ ?_ ?_
      ·refine lF (i:=4) rfl rfl (wn rfl) rfl rfl (eF (vs:=[.agg #[iV 4,iV e,iV fr,iV 0,iV 0,.slice A l.length c],.slice X4 ((K.drop d).length) (c2-p)]) rfl eQ wT) (q9 4 e fr 0 0 A c l X4 (c2-p) (K.drop d) _ (St.rd 5 DJ rfl) (St.rd 0 DJ rfl) (by rw [List.length_drop];unfold reachBytes;omega)) ?_;rintro _ w63 ⟨A61,c62,rfl,T65⟩;refine ⟨_,rfl,?_⟩;have S64:=DJ.ext T65 rfl;refine gP ?_;refine eG (m:=1) (r:=5) kQ ?_;refine mq (i:=5) rfl rfl (V:=λb=>pV b 0) (row:=zB) (t:=150) S64 (wn rfl) rfl rfl (fD rfl (Tryz.zeroValue150 _) rfl) ?_;intro b66 w67 zL;refine gP ?_;refine eB kQ rfl rfl rfl ?_;refine sa 0 zL kQ ?_;intro w69 r9;refine zQ ?_;refine iX ?_;refine dD (b66,A61,c62) ?_ TQ;exact r9
      refine mq (i:=5) rfl rfl (V:=λb=>pV b 0) (row:=zB) (t:=150) DJ (wn rfl) rfl rfl (fD rfl (Tryz.zeroValue150 _) rfl) ?_;intro b71 w72 tQ;refine gP ?_;refine eG (m:=1) (r:=4) kQ ?_;refine lF (i:=4) rfl rfl (wn rfl) rfl rfl (eF (vs:=[.agg #[iV 4,iV e,iV fr,iV 0,iV 0,.slice A l.length c],.slice X4 ((K.drop d).length) (c2-p)]) rfl eQ wT) (q9 4 e fr 0 0 A c l X4 (c2-p) (K.drop d) _ (St.rd 6 tQ rfl) (St.rd 1 tQ rfl) (by rw [List.length_drop];unfold reachBytes;omega)) ?_;rintro _ w76 ⟨A74,c75,rfl,T78⟩;refine ⟨_,rfl,?_⟩;have xL:=tQ.ext T78 rfl;refine gP ?_;refine eB kQ rfl rfl rfl ?_;refine sa 1 xL kQ ?_;intro w79 Bg;refine zQ ?_;refine iX ?_;have tO:St w.heap.size w w79 [_,_,_,_,_,_,_,_,_]:=Bg.re [1,0,2,3,4,5,6,7,8] dQ;refine dD (b71,A74,c75) ?_ TQ;exact tO
     rintro ⟨b82,A83,c84⟩ w85 yQ
     try dsimp only at yQ
     refine bg (l':=[(1,iV e),(2,iV ((k:Nat):Int)),(3,.slice A2 K.length c2),(4,.bool last),(5,pV b1 0),(10,pV b4 0),(11,iV 0),(14,pV b82 0)]) TQ (aA (gH (aA (av (vm ?_)))));refine zQ ?_
     cases arA:(last)
     ·refine zN 27 ?_;refine cab eQ yQ (dS 4 e fr 0 0 A83 c84 (l++(K.drop d)) _ (St.ord 1 yQ rfl) (by simp only [List.length_append,List.length_cons,List.length_nil,List.length_drop];omega)) ?_;intro w88 Lx;by_cases FV:aj ⟨4,e,fr,0,0,l++(K.drop d)⟩=0
      ·refine zN 9 ?_;refine sa 5 Lx kQ ?_;intro w92 yZ;refine zN 5 ?_;rw [E9 (b:=⟨4,e,fr,0,0,l⟩) (k:=k) h10 rfl rfl uQ];dsimp only;rw [show l.length-k=d from by omega];rw [if_neg (λh=>h (hqm.out.2 hq))];rw [if_neg iQ];rw [Rb];dsimp only;rw [if_neg (λh=>h FV)];have GJ:=yZ.aU [8,7,6,5,4,3,2,0];have hcp:=(dP (GJ.own 0 rfl)).1;have F3:=GJ.bC 0 rfl;exact ⟨A83,c84,mh,rfl,F3⟩
      refine zN 6 ?_;refine vv jm ?_;refine sa 5 Lx kQ ?_;intro w96 Cc;refine zN 6 ?_;rw [E9 (b:=⟨4,e,fr,0,0,l⟩) (k:=k) h10 rfl rfl uQ];dsimp only;rw [show l.length-k=d from by omega];rw [if_neg (λh=>h (hqm.out.2 hq))];rw [if_neg iQ];rw [Rb];dsimp only;rw [if_pos FV];have Bo:=Cc.aU [8,7,6,5,4,3,2,1,0];exact ⟨none,0,Nat.zero_le _,rfl,aB Bo⟩
     refine zN 3 ?_;refine vg (v:=iV ((k+K.length:Nat):Int)) j6 ?_;refine zN 3 ?_;by_cases h99:((k+K.length:Nat):Int)< ((l.length:Nat):Int)
     ·refine zN 8 ?_;refine vv jm ?_;refine sa 5 yQ kQ ?_;intro agl vS;refine zN 7 ?_;rw [E9 (b:=⟨4,e,fr,0,0,l⟩) (k:=k) h10 rfl rfl uQ];dsimp only;rw [show l.length-k=d from by omega];rw [if_neg (λh=>h (hqm.out.2 hq))];rw [if_pos ⟨rfl,by omega⟩];have sZ:=vS.aU [8,7,6,5,4,3,2,1,0];exact ⟨none,0,Nat.zero_le _,rfl,aB sZ⟩
     refine zN 17 ?_;refine vv (v:= .agg #[iV 1,iV e,iV 0,iV 0,iV 0,.slice A83 ((l++(K.drop d)).length) c84]) gB ?_;refine vv (v:= .agg #[iV 4,iV 0,iV 0,iV 0,iV 0,iV 0]) gB ?_;refine YZ yQ ?_;intro ayJ arB rY;refine dL eQ (q9 1 e 0 0 0 A83 c84 (l++(K.drop d)) (aD ayJ 0) 1 [cO] _ (St.ord 2 rY rfl) (St.lI (xs:=bn [cO]) 0 rY rfl rfl rfl) hw2) ?_;rintro _ arC ⟨IC,c107,rfl,ayK⟩;refine ⟨_,rfl,?_⟩;have IE:=rY.ext ayK rfl;refine sa 2 IE kQ ?_;intro Z0 vP;refine zN 7 ?_;refine cab eQ vP (dS 1 e 0 0 0 IC c107 (l++(K.drop d)++[cO]) _ (St.ord 0 vP rfl) (by simp only [List.length_append,List.length_cons,List.length_nil,List.length_drop];omega)) ?_;intro alU Ep;by_cases h116:aj ⟨1,e,0,0,0,l++(K.drop d)++[cO]⟩=0
     ·refine zN 9 ?_;refine sa 7 Ep kQ ?_;intro Z4 vR;refine zN 5 ?_;rw [E9 (b:=⟨4,e,fr,0,0,l⟩) (k:=k) h10 rfl rfl uQ];dsimp only;rw [show l.length-k=d from by omega];rw [if_neg (λh=>h (hqm.out.2 hq))];rw [if_neg jQ];rw [Ra];dsimp only;rw [if_neg (λh=>h h116)];have tq:=vR.aU [10,9,8,7,6,5,4,3,2,1];have hcp:=(dP (tq.own 0 rfl)).1;have qC:=tq.bC 0 rfl;exact ⟨IC,c107,mh,rfl,qC⟩
     refine zN 6 ?_;refine vv jm ?_;refine sa 7 Ep kQ ?_;intro Z8 Cu;refine zN 6 ?_;rw [E9 (b:=⟨4,e,fr,0,0,l⟩) (k:=k) h10 rfl rfl uQ];dsimp only;rw [show l.length-k=d from by omega];rw [if_neg (λh=>h (hqm.out.2 hq))];rw [if_neg jQ];rw [Ra];dsimp only;rw [if_pos h116];have zo:=Cu.aU [10,9,8,7,6,5,4,3,2,1,0];exact ⟨none,0,Nat.zero_le _,rfl,aB zo⟩
    rw [decide_eq_false hq] at HE;refine Xn (v:= .bool false) (wn rfl) rfl rfl (λ_=>(eF (vs:=[.slice A21 p p,.slice ZR p p]) rfl eQ wT)) (λ_ ab4=>(HE _ (St.rd 1 ab4 rfl) (St.rd 0 ab4 rfl)).mono λ_ _ h=>⟨h.1,ab4.on h.2⟩) ?_;clear HE;refine zQ ?_;refine iG λalK Qq=>?_;refine zN 4 ?_;refine vv jm ?_;refine sa 2 Qq kQ ?_;intro ayL zx;refine zN 6 ?_;rw [E9 (b:=⟨4,e,fr,0,0,l⟩) (k:=k) h10 rfl rfl uQ];dsimp only;rw [show l.length-k=d from by omega];rw [if_pos (λh=>hq (hqm.out.1 h))];have Z5:=zx.aU [5,4,3,2,1,0];exact ⟨none,0,Nat.zero_le _,rfl,aB Z5⟩
   refine zN 7 ?_;refine vv jm ?_;refine sa 0 S8 kQ ?_;intro af2 xV;refine zN 7 ?_;have Ql:=xV.aU [3,2,1,0];rw [show dw ⟨ro,ep,fr,tg,rd,l⟩ e at_ K last=(bG,15) from by unfold dw;(try dsimp only);exact kL];exact ⟨none,0,Nat.zero_le _,rfl,aB Ql⟩
  refine zN 7 ?_;refine vv jm ?_;refine sa 0 S8 kQ ?_;intro aqT K8;refine zN 7 ?_;have Ee:=K8.aU [3,2,1,0];rw [show dw ⟨ro,ep,fr,tg,rd,l⟩ e at_ K last=(bG,7) from by unfold dw;(try dsimp only);exact kL];exact ⟨none,0,Nat.zero_le _,rfl,aB Ee⟩
 refine zN 7 ?_;refine vv jm ?_;refine zQ ?_;refine sa 0 S8 kQ ?_;intro aqc Ef;refine zN 7 ?_;have FZ:=Ef.aU [3,2,1,0];rw [show dw ⟨ro,ep,fr,tg,rd,l⟩ e at_ K last=(bG,aj ⟨ro,ep,fr,tg,rd,l⟩) from by unfold dw;(try dsimp only);exact kL];exact ⟨none,0,Nat.zero_le _,rfl,aB FZ⟩
noncomputable def Cv (b:bK) (e:Ev):bK×Int:=if aj ⟨b.role,b.ep,b.fr,b.tg,b.rd,b.evs++[e]⟩≠0 then (bG,3) else (⟨b.role,b.ep,b.fr,b.tg,b.rd,b.evs++[e]⟩,0)
def UQ (b:bK) (pe:Int):bK×Int:=(⟨3,b.ep,b.fr,pe,b.rd,b.evs⟩,0)
noncomputable def ku (b:bK) (r:dH):bK×Int:=
 if r.kind=1 then ji b r.epoch else if r.kind=4 then dB b r.epoch r.peer
 else if ¬ (b.role=(if r.kind=2\/r.kind=3 then 1 else if r.kind=7 then 3 else 4)/\b.ep=r.epoch) then (bG,3)
 else if r.kind=3 then UQ b r.peer else if r.kind=6 then dw b r.epoch b.evs.length [] true else if r.kind=7 then fZ b (r.epoch+1) else Cv b r.ev
noncomputable def dV (b:bK) (r:dH):bK×Int:=
 if aj b≠0 then (bG,aj b) else if aJ r≠0 then (bG,aJ r)
 else if b.role=2\/(r.kind≠3/\r.kind≠4/\r.peer≠0) then (bG,3) else if (ku b r).2≠0 then (bG,3) else ((ku b r).1,0)
theorem vT (ro ep fr tg rd:Int) (A:Option Addr) (c:Nat) (l:List Ev) (kd qu e pe:Int) (x:Ev) (w:World) (h:Rd w w.heap.size 6 A l.length (bn l)) (hb:l.length*48<=reachBytes):
    Calls tP 146 #[.agg #[iV ro,iV ep,iV fr,iV tg,iV rd,.slice A l.length c],.agg (rR kd qu e pe x)] w (kJ w (ji ⟨ro,ep,fr,tg,rd,l⟩ e)):=by
 have S:=(St.start w).bX h;have hb2:=hb;unfold reachBytes at hb2;obtain ⟨R,hR⟩: ∃ R,ji ⟨ro,ep,fr,tg,rd,l⟩ e=R:=⟨_,rfl⟩;rw [hR];refine gK 12 Tryz.func146 ?_;refine cw [0,1] ?_;refine zN 2 ?_;refine iT S ?_;intro b1 w2 S3;refine iT S3 ?_;intro b4 w5 S6;refine fT S6 fM ?_;intro b7 w8 S9;refine zN 8 ?_;refine dL eQ ((hR▸KA ro ep fr tg rd A c l e _ (St.rd 3 S9 rfl) hb)) ?_;rintro _ Ce ⟨LH,c11,ab5,rfl,T15⟩;refine ⟨_,rfl,?_⟩;have jP:=S9.ext T15 rfl;refine zN 2 ?_;refine sa 1 jP kQ ?_;intro w16 kR;refine zN 5 ?_;have iU:=kR.aU [4,3,2,1];exact ⟨LH,c11,by assumption,rfl,iU⟩
theorem vU (ro ep fr tg rd:Int) (A:Option Addr) (c:Nat) (l:List Ev) (kd qu e pe:Int) (x:Ev) (w:World) (h:Rd w w.heap.size 6 A l.length (bn l)) (hb:l.length*48<=reachBytes):
    Calls tP 150 #[.agg #[iV ro,iV ep,iV fr,iV tg,iV rd,.slice A l.length c],.agg (rR kd qu e pe x)] w (kJ w (dB ⟨ro,ep,fr,tg,rd,l⟩ e pe)):=by
 have S:=(St.start w).bX h;have hb2:=hb;unfold reachBytes at hb2;obtain ⟨R,hR⟩: ∃ R,dB ⟨ro,ep,fr,tg,rd,l⟩ e pe=R:=⟨_,rfl⟩;rw [hR];refine gK 14 Tryz.func150 ?_;refine cw [0,1] ?_;refine zN 2 ?_;refine iT S ?_;intro b1 w2 S3;refine iT S3 ?_;intro b4 w5 S6;refine fT S6 fM ?_;intro b7 w8 S9;refine zN 10 ?_;refine dL eQ ((hR▸GZ ro ep fr tg rd A c l e pe _ (St.rd 3 S9 rfl) hb)) ?_;rintro _ Ce ⟨LH,c11,ab5,rfl,T15⟩;refine ⟨_,rfl,?_⟩;have jP:=S9.ext T15 rfl;refine zN 2 ?_;refine sa 1 jP kQ ?_;intro w16 kR;refine zN 5 ?_;have iU:=kR.aU [4,3,2,1];exact ⟨LH,c11,by assumption,rfl,iU⟩
theorem Ta (ro ep fr tg rd:Int) (A:Option Addr) (c:Nat) (l:List Ev) (kd qu e pe:Int) (x:Ev) (hlc:l.length<=c) (w:World) (h:Rd w w.heap.size 6 A l.length (bn l)) (hb:l.length*48<=reachBytes):
    Calls tP 151 #[.agg #[iV ro,iV ep,iV fr,iV tg,iV rd,.slice A l.length c],.agg (rR kd qu e pe x)] w (kJ w (dw ⟨ro,ep,fr,tg,rd,l⟩ e ((l.length:Nat):Int) [] true)):=by
 have S:=(St.start w).bX h;have hb2:=hb;unfold reachBytes at hb2;obtain ⟨R,hR⟩: ∃ R,dw ⟨ro,ep,fr,tg,rd,l⟩ e ((l.length:Nat):Int) [] true=R:=⟨_,rfl⟩;rw [hR];refine gK 15 Tryz.func151 ?_;refine cw [0,1] ?_;refine zN 2 ?_;refine iT S ?_;intro b1 w2 S3;refine iT S3 ?_;intro b4 w5 S6;refine fT S6 fM ?_;intro b7 w8 S9;refine zN 11 ?_;refine dL eQ ((hR▸Fa ro ep fr tg rd A c l e ((l.length:Nat):Int) none 0 [] true hlc (Nat.le_refl 0) _ Rd.none_ (St.rd 3 S9 rfl) hb dQ)) ?_;rintro _ Ce ⟨LH,c11,ab5,rfl,T15⟩;refine ⟨_,rfl,?_⟩;have jP:=S9.ext T15 rfl;refine zN 2 ?_;refine sa 1 jP kQ ?_;intro w16 kR;refine zN 5 ?_;have iU:=kR.aU [4,3,2,1];exact ⟨LH,c11,by assumption,rfl,iU⟩
theorem Tc (ro ep fr tg rd:Int) (A:Option Addr) (c:Nat) (l:List Ev) (kd qu e pe:Int) (x:Ev) (he:0<=e/\e<=1048576) (w:World) (h:Rd w w.heap.size 6 A l.length (bn l)) (hb:l.length*48<=reachBytes):
    Calls tP 152 #[.agg #[iV ro,iV ep,iV fr,iV tg,iV rd,.slice A l.length c],.agg (rR kd qu e pe x)] w (kJ w (fZ ⟨ro,ep,fr,tg,rd,l⟩ (e+1))):=by
 have S:=(St.start w).bX h;have hb2:=hb;unfold reachBytes at hb2;obtain ⟨R,hR⟩: ∃ R,fZ ⟨ro,ep,fr,tg,rd,l⟩ (e+1)=R:=⟨_,rfl⟩;rw [hR];refine gK 13 Tryz.func152 ?_;refine cw [0,1] ?_;refine zN 2 ?_;refine iT S ?_;intro b1 w2 S3;refine iT S3 ?_;intro b4 w5 S6;refine fT S6 fM ?_;intro b7 w8 S9;refine zN 8 ?_;refine vv (v:=iV (e+1)) j6 ?_;refine dL eQ ((hR▸E8 ro ep fr tg rd A c l (e+1) _ (St.rd 3 S9 rfl) hb)) ?_;rintro _ Ce ⟨LH,c11,ab5,rfl,T15⟩;refine ⟨_,rfl,?_⟩;have jP:=S9.ext T15 rfl;refine zN 2 ?_;refine sa 1 jP kQ ?_;intro w16 kR;refine zN 5 ?_;have iU:=kR.aU [4,3,2,1];exact ⟨LH,c11,by assumption,rfl,iU⟩
theorem Wx (ro ep fr tg rd:Int) (A:Option Addr) (c:Nat) (l:List Ev) (kd qu e pe:Int) (x:Ev) (hl2:l.length<=2000) (w:World) (h:Rd w w.heap.size 6 A l.length (bn l)) (hb:l.length*48<=reachBytes):
    Calls tP 148 #[.agg #[iV ro,iV ep,iV fr,iV tg,iV rd,.slice A l.length c],.agg (rR kd qu e pe x)] w (kJ w (Cv ⟨ro,ep,fr,tg,rd,l⟩ x)):=by
 have S:=(St.start w).bX h;have hb2:=hb;unfold reachBytes at hb2;refine gK 19 Tryz.func148 ?_;refine cw [0,1] ?_;refine zN 2 ?_;refine iT S ?_;intro b1 w2 S3;refine iT S3 ?_;intro b4 w5 S6;refine fT S6 fM ?_;intro b7 w8 S9;refine zN 3 ?_;have nN:=S9.nil 46 6;refine mU (X:=Nat×(Option Addr)×Nat) (λxv=>[(2,pV b1 0),(4,pV b7 0),(5,iV 0)]) (λxv wr=>St w.heap.size w wr [.blk xv.1 #[iV x.kind,iV x.producer,iV x.id,iV x.body,iV x.aL,iV x.hno] 46,.own 46 6 (.slice xv.2.1 ((0+l.length)+1) xv.2.2) ((0+l.length)+1) ((l++[x]).flatMap Ev.cells),.blk b7 zB 150,.blk b4 (rR kd qu e pe x) 155,.blk b1 #[iV ro,iV ep,iV fr,iV tg,iV rd,.slice xv.2.1 ((0+l.length)+1) xv.2.2] 150,.rd 6 A l.length ((l).flatMap Ev.cells)]) ?_ ?_
 ·have rJ:=nN.drew;refine eZ 9 7 rJ [0] ?_;iterate 3 refine gP ?_
  refine gk (v:= .agg #[iV x.kind,iV x.producer,iV x.id,iV x.body,iV x.aL,iV x.hno]) 4 rfl (St.del 0 rJ) (λ_ aln=>(ah rfl rfl (dK (cs:=[iV x.kind,iV x.producer,iV x.id,iV x.body,iV x.aL,iV x.hno]) (St.rg 1 aln rfl (l8 (x:=4) (m:=6) rfl))))) ?_;refine ach (m:=4) (r:=2) (s:=5) kQ ?_ ?_
  ·refine kX (i:=2) rfl rfl (news:=(l).flatMap Ev.cells) (xs':=(l).flatMap Ev.cells) 0 rJ (wn rfl) rfl rfl rfl rfl rfl rfl (St.rd 4 rJ rfl) Tryz.underlying121 qw rfl dQ (fB _) lQ oQ (rfl) ?_;intro A16 c17 Jg ayM ayN kM;refine gP ?_;refine eG (m:=3) (r:=5) kQ ?_;refine mq (i:=5) rfl rfl (V:=λb=> .slice (aD b 0) 1 1) (row:= #[iV x.kind,iV x.producer,iV x.id,iV x.body,iV x.aL,iV x.hno]) (t:=46) kM (wn rfl) rfl rfl (aS (vs:=[(0,.agg #[iV x.kind,iV x.producer,iV x.id,iV x.body,iV x.aL,iV x.hno])]) rfl wT kQ) ?_;intro Q7 Jj jq;refine gP ?_;refine eG (m:=2) (r:=6) kQ ?_;refine kX (i:=6) rfl rfl (news:=[iV x.kind,iV x.producer,iV x.id,iV x.body,iV x.aL,iV x.hno]) (xs':=(l++[x]).flatMap Ev.cells) 1 jq (wn rfl) rfl rfl rfl rfl rfl rfl (St.lI (xs:=[iV x.kind,iV x.producer,iV x.id,iV x.body,iV x.aL,iV x.hno]) 0 jq rfl rfl rfl) Tryz.underlying121 qw rfl dQ (aM rfl) lQ oQ (kI (enc:=Ev.cells) rfl rfl) ?_;intro A25 c26 MW hc29 ayO sJ;refine gP ?_;refine eB kQ rfl rfl rfl ?_;refine zQ ?_;refine Gz 4 sJ kQ ?_;intro T9 pX;refine zQ ?_;refine iX ?_;refine dD (Q7,A25,c26) ?_ EO;exact pX
  refine mq (i:=5) rfl rfl (V:=λb=> .slice (aD b 0) 1 1) (row:= #[iV x.kind,iV x.producer,iV x.id,iV x.body,iV x.aL,iV x.hno]) (t:=46) rJ (wn rfl) rfl rfl (aS (vs:=[(0,.agg #[iV x.kind,iV x.producer,iV x.id,iV x.body,iV x.aL,iV x.hno])]) rfl wT kQ) ?_;intro b33 w34 uj;refine gP ?_;refine eG (m:=3) (r:=2) kQ ?_;refine kX (i:=2) rfl rfl (news:=(l).flatMap Ev.cells) (xs':=(l).flatMap Ev.cells) 1 uj (wn rfl) rfl rfl rfl rfl rfl rfl (St.rd 5 uj rfl) Tryz.underlying121 qw rfl dQ (fB _) lQ oQ (rfl) ?_;intro A36 c37 w38 aHo aHp CY;refine gP ?_;refine eG (m:=2) (r:=6) kQ ?_;refine kX (i:=6) rfl rfl (news:=[iV x.kind,iV x.producer,iV x.id,iV x.body,iV x.aL,iV x.hno]) (xs':=(l++[x]).flatMap Ev.cells) 1 CY (wn rfl) rfl rfl rfl rfl rfl rfl (St.lI (xs:=[iV x.kind,iV x.producer,iV x.id,iV x.body,iV x.aL,iV x.hno]) 0 CY rfl rfl rfl) Tryz.underlying121 qw rfl dQ (aM rfl) lQ oQ (kI (enc:=Ev.cells) rfl rfl) ?_;intro A42 c43 QU aHq aHr oP;refine gP ?_;refine eB kQ rfl rfl rfl ?_;refine zQ ?_;refine Gz 4 oP kQ ?_;intro ZL u6;refine zQ ?_;refine iX ?_;refine dD (b33,A42,c43) ?_ EO;exact u6
 rintro ⟨b50,A51,c52⟩ w53 lC
 try dsimp only at lC
 refine bg (l':=[(2,pV b1 0),(4,pV b7 0),(5,iV 0)]) EO (aA (aA (av (vv (ah rfl rfl (jc 4 lC rfl Tryz.underlying150 rfl kQ rfl)) ?_))));have hal:(l++[x]).length=(0+l.length)+1:=by simp only [List.length_append,List.length_cons,List.length_nil,List.length_drop,Nat.zero_add]
 have arE:=λ(w:World) (h:Rd w w.heap.size 6 A51 ((l++[x]).length) (bn (l++[x])))=>dS ro ep fr tg rd A51 c52 (l++[x]) w h oQ;rw [hal] at arE;refine dL eQ (arE _ (St.ord 1 lC rfl)) ?_;rintro _ w56 ⟨rfl,arF⟩;refine ⟨_,rfl,?_⟩;have qN:=lC.on arF;clear arF lC;by_cases h59:aj ⟨ro,ep,fr,tg,rd,l++[x]⟩=0
 ·have hsh:=(eH h59).1;unfold bD at hsh;have hln:=gG (eH h59).2;dsimp only at hsh hln;refine zN 9 ?_;refine sa 2 qN kQ ?_;intro Zu EY;refine zN 5 ?_;have Jk:=EY.aU [5,4,3,2,0];have hcp:=(dP (Jk.own 0 rfl)).1;have uM:=Jk.bC 0 rfl;rw [show Cv ⟨ro,ep,fr,tg,rd,l⟩ x=(⟨ro,ep,fr,tg,rd,l++[x]⟩,0) from by unfold Cv;(try dsimp only);exact kL];refine ⟨A51,c52,?_,?_,?_⟩
  · dsimp only;rw [hal];exact hcp
  · dsimp only;rw [hal];rfl
  · dsimp only;rw [hal];exact uM
 refine zN 6 ?_;refine vv jm ?_;refine sa 2 qN kQ ?_;intro Uc yN;refine zN 6 ?_;have EX:=yN.aU [5,4,3,2,1,0];rw [show Cv ⟨ro,ep,fr,tg,rd,l⟩ x=(⟨0,0,0,0,0,[]⟩,3) from by unfold Cv;(try dsimp only);exact kL];exact ⟨none,0,mh,rfl,aB EX⟩
theorem Td (ro ep fr tg rd:Int) (A:Option Addr) (c:Nat) (l:List Ev) (kd qu e pe:Int) (x:Ev) (w:World) (h:Rd w w.heap.size 6 A l.length (bn l)) (hb:l.length*48<=reachBytes):
    Calls tP 149 #[.agg #[iV ro,iV ep,iV fr,iV tg,iV rd,.slice A l.length c],.agg (rR kd qu e pe x)] w λe w'=>e= .returned (.tuple #[.agg #[iV 3,iV ep,iV fr,iV pe,iV rd,.slice A l.length c],iV 0])/\Below w.heap.size w w':=by
 have S:=(St.start w).bX h;have hb2:=hb;unfold reachBytes at hb2;refine gK 11 Tryz.func149 ?_;refine cw [0,1] ?_;refine zN 2 ?_;refine iT S ?_;intro b1 w2 S3;refine iT S3 ?_;intro b4 w5 S6;refine fT S6 fM ?_;intro b7 w8 S9;refine zN 4 ?_;have nN:=S9.drew;refine aF 6 nN [2] ?_;refine aI 3 ?_;refine aY 3 ?_;refine snz (row':= #[iV 3,iV ep,iV fr,iV tg,iV rd,.slice A l.length c]) 3 rfl 2 nN kQ ?_;intro LB iW;refine aI 2 ?_;refine aY 5 ?_;refine snz (row':= #[iV 3,iV ep,iV fr,iV pe,iV rd,.slice A l.length c]) 5 rfl 2 iW kQ ?_;intro Kt iU;refine aI 2 ?_;refine zN 4 ?_;refine sa 0 iU kQ ?_;intro BZ kD;refine zN 5 ?_;exact ⟨rfl,kD.low⟩
theorem Rc (ro ep fr tg rd:Int) (A:Option Addr) (c:Nat) (l:List Ev) (kd qu e pe:Int) (x:Ev) (z:Int) (b1 b2:Nat) (hl2:l.length<=2000) (w:World) (h:Rd w w.heap.size 6 A l.length (bn l)) (hb:l.length*48<=reachBytes) (h1:Rd w w.heap.size 1 (aD b1 0) 1 [iV z]) (h2:Rd w w.heap.size 1 (aD b2 0) 1 [.func (.func 148) #[] #[]]):
    Calls tP 162 #[.agg #[iV ro,iV ep,iV fr,iV tg,iV rd,.slice A l.length c],.agg (rR kd qu e pe x),pV b1 0,pV b2 0] w (kJ w (if ¬ (ro=z/\ep=e) then (bG,3) else Cv ⟨ro,ep,fr,tg,rd,l⟩ x)):=by
 have S:=(((St.start w).bX h2).bX h1).bX h;have hb2:=hb;unfold reachBytes at hb2;obtain ⟨R,hR⟩: ∃ R,Cv ⟨ro,ep,fr,tg,rd,l⟩ x=R:=⟨_,rfl⟩;rw [hR];refine gK 26 Tryz.func162 ?_;refine cw [0,1,2,3] ?_;refine zN 2 ?_;refine iT S ?_;intro b1 w2 S3;refine iT S3 ?_;intro b4 w5 S6;refine fT S6 fM ?_;intro b7 w8 S9;refine zN 8 ?_;refine vv (v:=iV z) (ah rfl rfl (aG (Rd.cl (j:=0) (St.rd 4 S9 rfl) rfl))) ?_;by_cases h10:ro=z
 ·refine zN 6 ?_;by_cases h11:ep=e
  ·refine zN 9 ?_;refine vv (v:= .func (.func 148) #[] #[]) (ah rfl rfl (aG (Rd.cl (j:=0) (St.rd 5 S9 rfl) rfl))) ?_;refine zN 2 ?_;refine vO eQ ((hR▸Wx ro ep fr tg rd A c l kd qu e pe x hl2 _ (St.rd 3 S9 rfl) hb)) ?_;rintro _ C8 ⟨Pv,c13,akv,rfl,T17⟩;refine ⟨_,rfl,?_⟩;have jR:=S9.ext T17 rfl;refine zN 2 ?_;refine sa 1 jR kQ ?_;intro Jg kM;refine zN 5 ?_;rw [if_neg oQ];have kD:=kM.aU [6,5,4,3,2,1];exact ⟨Pv,c13,by assumption,rfl,kD⟩
  refine zN 7 ?_;refine vv jm ?_;refine sa 0 S9 kQ ?_;intro CW iM;refine zN 6 ?_;have kS:=iM.aU [5,4,3,2,1,0];rw [if_pos oQ];exact ⟨none,0,Nat.zero_le _,rfl,aB kS⟩
 refine zN 13 ?_;refine vv jm ?_;refine sa 0 S9 kQ ?_;intro LG iy;refine zN 6 ?_;have nV:=iy.aU [5,4,3,2,1,0];rw [if_pos oQ];exact ⟨none,0,Nat.zero_le _,rfl,aB nV⟩
theorem pF (ro ep fr tg rd:Int) (A:Option Addr) (c:Nat) (l:List Ev) (kd qu e pe:Int) (x:Ev) (z:Int) (b1 b2:Nat) (w:World) (h:Rd w w.heap.size 6 A l.length (bn l)) (hb:l.length*48<=reachBytes) (h1:Rd w w.heap.size 1 (aD b1 0) 1 [iV z]) (h2:Rd w w.heap.size 1 (aD b2 0) 1 [.func (.func 149) #[] #[]]):
    Calls tP 162 #[.agg #[iV ro,iV ep,iV fr,iV tg,iV rd,.slice A l.length c],.agg (rR kd qu e pe x),pV b1 0,pV b2 0] w λe' w'=>(¬ (ro=z/\ep=e)/\e'= .returned (.tuple #[.agg zB,iV 3])\/(ro=z/\ep=e)/\e'= .returned (.tuple #[.agg #[iV 3,iV ep,iV fr,iV pe,iV rd,.slice A l.length c],iV 0]))/\Below w.heap.size w w':=by
 have S:=(((St.start w).bX h2).bX h1).bX h;have hb2:=hb;unfold reachBytes at hb2;refine gK 26 Tryz.func162 ?_;refine cw [0,1,2,3] ?_;refine zN 2 ?_;refine iT S ?_;intro b1 w2 S3;refine iT S3 ?_;intro b4 w5 S6;refine fT S6 fM ?_;intro b7 w8 S9;refine zN 8 ?_;refine vv (v:=iV z) (ah rfl rfl (aG (Rd.cl (j:=0) (St.rd 4 S9 rfl) rfl))) ?_;by_cases h10:ro=z
 ·refine zN 6 ?_;by_cases h11:ep=e
  ·refine zN 9 ?_;refine vv (v:= .func (.func 149) #[] #[]) (ah rfl rfl (aG (Rd.cl (j:=0) (St.rd 5 S9 rfl) rfl))) ?_;refine zN 2 ?_;refine vO eQ (Td ro ep fr tg rd A c l kd qu e pe x _ (St.rd 3 S9 rfl) hb) ?_;rintro _ w12 ⟨rfl,ayP⟩;refine ⟨_,rfl,?_⟩;have za:=S9.on ayP;refine zN 2 ?_;refine sa 0 za kQ ?_;intro C8 jR;refine zN 5 ?_;exact ⟨.inr ⟨by omega,rfl⟩,jR.low⟩
  refine zN 7 ?_;refine vv jm ?_;refine sa 0 S9 kQ ?_;intro Kt iU;refine zN 6 ?_;exact ⟨.inl ⟨by omega,rfl⟩,iU.low⟩
 refine zN 13 ?_;refine vv jm ?_;refine sa 0 S9 kQ ?_;intro BZ kD;refine zN 6 ?_;exact ⟨.inl ⟨by omega,rfl⟩,kD.low⟩
theorem aeF (ro ep fr tg rd:Int) (A:Option Addr) (c:Nat) (l:List Ev) (kd qu e pe:Int) (x:Ev) (z:Int) (b1 b2:Nat) (hlc:l.length<=c) (w:World) (h:Rd w w.heap.size 6 A l.length (bn l)) (hb:l.length*48<=reachBytes) (h1:Rd w w.heap.size 1 (aD b1 0) 1 [iV z]) (h2:Rd w w.heap.size 1 (aD b2 0) 1 [.func (.func 151) #[] #[]]):
    Calls tP 162 #[.agg #[iV ro,iV ep,iV fr,iV tg,iV rd,.slice A l.length c],.agg (rR kd qu e pe x),pV b1 0,pV b2 0] w (kJ w (if ¬ (ro=z/\ep=e) then (bG,3) else dw ⟨ro,ep,fr,tg,rd,l⟩ e ((l.length:Nat):Int) [] true)):=by
 have S:=(((St.start w).bX h2).bX h1).bX h;have hb2:=hb;unfold reachBytes at hb2;obtain ⟨R,hR⟩: ∃ R,dw ⟨ro,ep,fr,tg,rd,l⟩ e ((l.length:Nat):Int) [] true=R:=⟨_,rfl⟩;rw [hR];refine gK 26 Tryz.func162 ?_;refine cw [0,1,2,3] ?_;refine zN 2 ?_;refine iT S ?_;intro b1 w2 S3;refine iT S3 ?_;intro b4 w5 S6;refine fT S6 fM ?_;intro b7 w8 S9;refine zN 8 ?_;refine vv (v:=iV z) (ah rfl rfl (aG (Rd.cl (j:=0) (St.rd 4 S9 rfl) rfl))) ?_;by_cases h10:ro=z
 ·refine zN 6 ?_;by_cases h11:ep=e
  ·refine zN 9 ?_;refine vv (v:= .func (.func 151) #[] #[]) (ah rfl rfl (aG (Rd.cl (j:=0) (St.rd 5 S9 rfl) rfl))) ?_;refine zN 2 ?_;refine vO eQ ((hR▸Ta ro ep fr tg rd A c l kd qu e pe x hlc _ (St.rd 3 S9 rfl) hb)) ?_;rintro _ C8 ⟨Pv,c13,akv,rfl,T17⟩;refine ⟨_,rfl,?_⟩;have jR:=S9.ext T17 rfl;refine zN 2 ?_;refine sa 1 jR kQ ?_;intro Jg kM;refine zN 5 ?_;rw [if_neg oQ];have kD:=kM.aU [6,5,4,3,2,1];exact ⟨Pv,c13,by assumption,rfl,kD⟩
  refine zN 7 ?_;refine vv jm ?_;refine sa 0 S9 kQ ?_;intro CW iM;refine zN 6 ?_;have kS:=iM.aU [5,4,3,2,1,0];rw [if_pos oQ];exact ⟨none,0,Nat.zero_le _,rfl,aB kS⟩
 refine zN 13 ?_;refine vv jm ?_;refine sa 0 S9 kQ ?_;intro LG iy;refine zN 6 ?_;have nV:=iy.aU [5,4,3,2,1,0];rw [if_pos oQ];exact ⟨none,0,Nat.zero_le _,rfl,aB nV⟩
theorem aeG (ro ep fr tg rd:Int) (A:Option Addr) (c:Nat) (l:List Ev) (kd qu e pe:Int) (x:Ev) (z:Int) (b1 b2:Nat) (he:0<=e/\e<=1048576) (w:World) (h:Rd w w.heap.size 6 A l.length (bn l)) (hb:l.length*48<=reachBytes) (h1:Rd w w.heap.size 1 (aD b1 0) 1 [iV z]) (h2:Rd w w.heap.size 1 (aD b2 0) 1 [.func (.func 152) #[] #[]]):
    Calls tP 162 #[.agg #[iV ro,iV ep,iV fr,iV tg,iV rd,.slice A l.length c],.agg (rR kd qu e pe x),pV b1 0,pV b2 0] w (kJ w (if ¬ (ro=z/\ep=e) then (bG,3) else fZ ⟨ro,ep,fr,tg,rd,l⟩ (e+1))):=by
 have S:=(((St.start w).bX h2).bX h1).bX h;have hb2:=hb;unfold reachBytes at hb2;obtain ⟨R,hR⟩: ∃ R,fZ ⟨ro,ep,fr,tg,rd,l⟩ (e+1)=R:=⟨_,rfl⟩;rw [hR];refine gK 26 Tryz.func162 ?_;refine cw [0,1,2,3] ?_;refine zN 2 ?_;refine iT S ?_;intro b1 w2 S3;refine iT S3 ?_;intro b4 w5 S6;refine fT S6 fM ?_;intro b7 w8 S9;refine zN 8 ?_;refine vv (v:=iV z) (ah rfl rfl (aG (Rd.cl (j:=0) (St.rd 4 S9 rfl) rfl))) ?_;by_cases h10:ro=z
 ·refine zN 6 ?_;by_cases h11:ep=e
  ·refine zN 9 ?_;refine vv (v:= .func (.func 152) #[] #[]) (ah rfl rfl (aG (Rd.cl (j:=0) (St.rd 5 S9 rfl) rfl))) ?_;refine zN 2 ?_;refine vO eQ ((hR▸Tc ro ep fr tg rd A c l kd qu e pe x he _ (St.rd 3 S9 rfl) hb)) ?_;rintro _ C8 ⟨Pv,c13,akv,rfl,T17⟩;refine ⟨_,rfl,?_⟩;have jR:=S9.ext T17 rfl;refine zN 2 ?_;refine sa 1 jR kQ ?_;intro Jg kM;refine zN 5 ?_;rw [if_neg oQ];have kD:=kM.aU [6,5,4,3,2,1];exact ⟨Pv,c13,by assumption,rfl,kD⟩
  refine zN 7 ?_;refine vv jm ?_;refine sa 0 S9 kQ ?_;intro CW iM;refine zN 6 ?_;have kS:=iM.aU [5,4,3,2,1,0];rw [if_pos oQ];exact ⟨none,0,Nat.zero_le _,rfl,aB kS⟩
 refine zN 13 ?_;refine vv jm ?_;refine sa 0 S9 kQ ?_;intro LG iy;refine zN 6 ?_;have nV:=iy.aU [5,4,3,2,1,0];rw [if_pos oQ];exact ⟨none,0,Nat.zero_le _,rfl,aB nV⟩
theorem sj (z:Int) (n:FuncId) (w:World):
    Calls tP 147 #[iV z,.func (.func n) #[] #[]] w λe w'=> ∃ b1 b2,e= .returned (.func (.func 162) #[] #[pV b1 0,pV b2 0])/\St w.heap.size w w' [.blk b1 #[iV z] 3,.blk b2 #[.func (.func n) #[] #[]] 203]:=by
 have S:=St.start w;refine gK 6 Tryz.func147 ?_;refine cw [0,1] ?_;refine zN 2 ?_;refine TU S ?_;intro b1 w2 S3;refine TU S3 ?_;intro b4 w5 S6;refine zN 5 ?_;refine vv Jb ?_;refine zN 5 ?_;have S7:St w.heap.size w w5 [_,_]:=S6.re [1,0] dQ;exact ⟨b1,b4,rfl,S7⟩
def aeH (w:World) (e:Ending) (w':World):Prop:= ∃ m d1 g1 d2 g2 d3 g3 d4 g4 d5 g5,e= .returned (.map (some m))/\St w.heap.size w w' [.blk d5 #[iV 3] 3,.blk g5 #[.func (.func 152) #[] #[]] 203,.blk d4 #[iV 4] 3,.blk g4 #[.func (.func 151) #[] #[]] 203,.blk d3 #[iV 4] 3,.blk g3 #[.func (.func 148) #[] #[]] 203,.blk d2 #[iV 1] 3,.blk g2 #[.func (.func 149) #[] #[]] 203,.blk d1 #[iV 1] 3,.blk g1 #[.func (.func 148) #[] #[]] 203,.loc m (qd tP 3 (λy=>if y=7 then some (.func (.func 162) #[] #[pV d5 0,pV g5 0]) else (λy=>if y=6 then some (.func (.func 162) #[] #[pV d4 0,pV g4 0]) else (λy=>if y=5 then some (.func (.func 162) #[] #[pV d3 0,pV g3 0]) else (λy=>if y=4 then some (.func (.func 150) #[] #[]) else (λy=>if y=3 then some (.func (.func 162) #[] #[pV d2 0,pV g2 0]) else (λy=>if y=2 then some (.func (.func 162) #[] #[pV d1 0,pV g1 0]) else (λy=>if y=1 then some (.func (.func 146) #[] #[]) else (λ_=>none) y) y) y) y) y) y) y) 7)]
theorem ny (w:World):
    Calls tP 112 #[] w (aeH w):=by
 have S:=St.start w;refine gK 8 Tryz.func112 ?_;refine bg (l':=[]) trivial (aA (av (va ?_)));refine zN 4 ?_;refine JF (k:=3) S (wn rfl) rfl rfl rfl ?_;intro b1 w2 S3;refine kG (e:=203) 0 S3 (wn rfl) rfl rfl rfl rfl rfl rfl Tryz.underlying3 Tryz.underlying204 dQ dQ ?_;intro w4 S5;refine dL eQ (sj 1 148 _) ?_;rintro _ w8 ⟨b6,b7,rfl,T10⟩;refine ⟨_,rfl,?_⟩;have S9:=S5.ext T10 rfl;refine kG (e:=203) 2 S9 (wn rfl) rfl rfl rfl rfl rfl rfl Tryz.underlying3 Tryz.underlying204 dQ dQ ?_;intro EW kP;refine dL eQ (sj 1 149 _) ?_;rintro _ C8 ⟨b13,b14,rfl,T17⟩;refine ⟨_,rfl,?_⟩;have jR:=kP.ext T17 rfl;refine kG (e:=203) 4 jR (wn rfl) rfl rfl rfl rfl rfl rfl Tryz.underlying3 Tryz.underlying204 dQ dQ ?_;intro Jg kM;refine kG (e:=203) 4 kM (wn rfl) rfl rfl rfl rfl rfl rfl Tryz.underlying3 Tryz.underlying204 dQ dQ ?_;intro Pt nO;refine dL eQ (sj 4 148 _) ?_;rintro _ LG ⟨Q7,zO,rfl,T26⟩;refine ⟨_,rfl,?_⟩;have iy:=nO.ext T26 rfl;refine kG (e:=203) 6 iy (wn rfl) rfl rfl rfl rfl rfl rfl Tryz.underlying3 Tryz.underlying204 dQ dQ ?_;intro MW sJ;refine dL eQ (sj 4 151 _) ?_;rintro _ T9 ⟨b29,b30,rfl,T33⟩;refine ⟨_,rfl,?_⟩;have pX:=sJ.ext T33 rfl;refine kG (e:=203) 8 pX (wn rfl) rfl rfl rfl rfl rfl rfl Tryz.underlying3 Tryz.underlying204 dQ dQ ?_;intro w34 uj;refine dL eQ (sj 3 152 _) ?_;rintro _ w38 ⟨sO,b37,rfl,T40⟩;refine ⟨_,rfl,?_⟩;have CY:=uj.ext T40 rfl;refine kG (e:=203) 10 CY (wn rfl) rfl rfl rfl rfl rfl rfl Tryz.underlying3 Tryz.underlying204 dQ dQ ?_;intro w41 uZ;refine zN 6 ?_;exact ⟨b1,b6,b7,b13,b14,Q7,zO,b29,b30,sO,b37,rfl,uZ⟩
def mo (w:World) (r:bK×Int) (e:Ending) (w':World):Prop:= ∃ A c,∃ _:r.1.evs.length<=c,e= .returned (.tuple #[.agg #[iV r.1.role,iV r.1.ep,iV r.1.fr,iV r.1.tg,iV r.1.rd,.slice A r.1.evs.length c],iV r.2])/\St w.heap.size w w' [.bI 6 A r.1.evs.length (bn r.1.evs)]
section
variable {b:bK} {r:dH} {qu e pe:Int} {x:Ev}
theorem zP (h:aJ r=0):1<=r.kind/\r.kind<=7/\0<=r.queue/\r.queue<=3/\0<=r.epoch/\r.epoch<=1048576/\0<=r.peer/\r.peer<=4:=by
 unfold aJ at h
 split at h
 ·cases h
 rename_i h1
 split at h
 ·cases h
 rename_i h2
 simp [kC] at h1 h2;omega
theorem aeI (h: ¬ (1<=r.kind/\r.kind<=7)):aJ r=3:=by
 unfold aJ;rw [if_pos (by simp [kC];omega)]
theorem zR (h: ¬ aj b=0):dV b r=(bG,aj b):=by unfold dV;rw [if_pos h]
theorem zS (h:aj b=0) (h1: ¬ aJ r=0):dV b r=(bG,aJ r):=by unfold dV;rw [if_neg (λk=>k h),if_pos h1]
theorem Aw (h:aj b=0) (h1:aJ r=0) (h2:b.role=2\/(r.kind≠3/\r.kind≠4/\r.peer≠0)):dV b r=(bG,3):=by unfold dV;rw [if_neg (λk=>k h),if_neg (λk=>k h1),if_pos h2]
theorem uH (h:aj b=0) (h1:aJ r=0) (h3: ¬ (ku b r).2=0):dV b r=(bG,3):=by
 unfold dV;rw [if_neg (λk=>k h),if_neg (λk=>k h1)];split
 ·rfl
 first | rfl | rw [if_pos h3]
theorem kg (h:aj b=0) (h1:aJ r=0) (h2: ¬ (b.role=2\/(r.kind≠3/\r.kind≠4/\r.peer≠0))) (h3:(ku b r).2=0):dV b r=((ku b r).1,0):=by
 unfold dV;rw [if_neg (λk=>k h),if_neg (λk=>k h1),if_neg h2,if_neg (λk=>k h3)]
theorem aoV:ku b ⟨1,qu,e,pe,x⟩=ji b e:=by simp [ku]
theorem ac4:ku b ⟨2,qu,e,pe,x⟩=if ¬ (b.role=1/\b.ep=e) then (bG,3) else Cv b x:=by simp [ku]
theorem rO:ku b ⟨3,qu,e,pe,x⟩=if ¬ (b.role=1/\b.ep=e) then (bG,3) else UQ b pe:=by simp [ku]
theorem aoW:ku b ⟨4,qu,e,pe,x⟩=dB b e pe:=by simp [ku]
theorem ac5:ku b ⟨5,qu,e,pe,x⟩=if ¬ (b.role=4/\b.ep=e) then (bG,3) else Cv b x:=by simp [ku]
theorem aoX:ku b ⟨6,qu,e,pe,x⟩=if ¬ (b.role=4/\b.ep=e) then (bG,3) else dw b e b.evs.length [] true:=by simp [ku]
theorem aoY:ku b ⟨7,qu,e,pe,x⟩=if ¬ (b.role=3/\b.ep=e) then (bG,3) else fZ b (e+1):=by simp [ku]
theorem aeJ {a:Int}:(dw b e a [] true).1.evs.length<=b.evs.length+1:=by
 unfold dw
 repeat' split
 all_goals simp [bG]
theorem Es:(ku b r).1.evs.length<=b.evs.length+1:=by
 have h6:=aeJ (b:=b) (e:=r.epoch) (a:=b.evs.length);unfold ku
 (repeat' split)<;>first | exact h6 | (unfold ji;(repeat' split)<;>simp [bG]) | (unfold dB;(repeat' split)<;>simp [bG]) | (unfold fZ;(repeat' split)<;>simp [bG]) | (unfold Cv;(repeat' split)<;>simp [bG]) | simp [bG,UQ]
end
theorem IG {P:Program} {f:FuncId} {vs:Array Value} {w:World} {p:Prop} {X Y:Ending} {B:Nat} (h:Calls P f vs w (λe' w'=>(¬ p/\e'=X\/p/\e'=Y)/\Below B w w')) (hp:p):Calls P f vs w (λe' w'=>e'=Y/\Below B w w'):=
 h.mono λ_ _ k=>⟨k.1.elim (λq=>absurd hp q.1) (λq=>q.2),k.2⟩
theorem Ng {P:Program} {f:FuncId} {vs:Array Value} {w:World} {p:Prop} {X Y:Ending} {B:Nat} (h:Calls P f vs w (λe' w'=>(¬ p/\e'=X\/p/\e'=Y)/\Below B w w')) (hp: ¬ p):Calls P f vs w (λe' w'=>e'=X/\Below B w w'):=
 h.mono λ_ _ k=>⟨k.1.elim (λq=>q.2) (λq=>absurd q.1 hp),k.2⟩
theorem St.xI {B:Nat} {w0 w:World} {fs:List Fact} {b:Nat} {R R':Obj->Prop} (i:Nat) (S:St B w0 w fs) (hi:fs[i]? =some (.loc b R)) (h: ∀ o,R o->R' o):St B w0 w (fs.set i (.loc b R')):=by
 obtain ⟨o,ho,hR⟩:=S.loc i hi;exact S.TJ i hi ⟨rfl,rfl,rfl,rfl,λ_ _=>rfl⟩ ho (h _ hR)
theorem qV {P:Program} {k:TypeId} {f:Int->Option Value} {n:Nat} {o:Obj} {z:Int} {v:Value} (h:qd P k f n o) (hf:f z=some v):qd P k (λy=>if y=z then some v else none) n o:=by
 obtain ⟨es,c,e,h⟩:=h;refine ⟨es,c,e,λw b hb=>?_⟩;obtain ⟨D,h1,h2⟩:=h w b hb;refine ⟨D,h1,λy u hu=>?_⟩;dsimp only at hu;by_cases hy:y=z
 ·rw [if_pos hy] at hu;cases hu;rw [hy];exact h2 z v hf
 rw [if_neg hy] at hu;cases hu
theorem Rf (w:World):Calls tP 112 #[] w λe w'=> ∃ m,e= .returned (.map (some m))/\St w.heap.size w w' [.loc m (qd tP 3 (λy=>if y=1 then some (.func (.func 146) #[] #[]) else none) 7)]:=
 (ny w).mono λ_ _ ⟨m,d1,g1,d2,g2,d3,g3,d4,g4,d5,g5,h,S⟩=>⟨m,h,(St.del 0 (St.del 1 (St.del 2 (St.del 3 (St.del 4 (St.del 5 (St.del 6 (St.del 7 (St.del 8 (St.del 9 (St.xI 10 S rfl (λ_ h=>qV h (z:=1) rfl))))))))))))⟩
theorem aeK (w:World):Calls tP 112 #[] w λe w'=> ∃ m d1 g1,e= .returned (.map (some m))/\St w.heap.size w w' [.blk d1 #[iV 1] 3,.blk g1 #[.func (.func 148) #[] #[]] 203,.loc m (qd tP 3 (λy=>if y=2 then some (.func (.func 162) #[] #[pV d1 0,pV g1 0]) else none) 7)]:=
 (ny w).mono λ_ _ ⟨m,d1,g1,d2,g2,d3,g3,d4,g4,d5,g5,h,S⟩=>⟨m,d1,g1,h,(St.del 0 (St.del 1 (St.del 2 (St.del 3 (St.del 4 (St.del 5 (St.del 6 (St.del 7 (St.xI 10 S rfl (λ_ h=>qV h (z:=2) rfl))))))))))⟩
theorem Rh (w:World):Calls tP 112 #[] w λe w'=> ∃ m d2 g2,e= .returned (.map (some m))/\St w.heap.size w w' [.blk d2 #[iV 1] 3,.blk g2 #[.func (.func 149) #[] #[]] 203,.loc m (qd tP 3 (λy=>if y=3 then some (.func (.func 162) #[] #[pV d2 0,pV g2 0]) else none) 7)]:=
 (ny w).mono λ_ _ ⟨m,d1,g1,d2,g2,d3,g3,d4,g4,d5,g5,h,S⟩=>⟨m,d2,g2,h,(St.del 0 (St.del 1 (St.del 2 (St.del 3 (St.del 4 (St.del 5 (St.del 8 (St.del 9 (St.xI 10 S rfl (λ_ h=>qV h (z:=3) rfl))))))))))⟩
theorem Ri (w:World):Calls tP 112 #[] w λe w'=> ∃ m,e= .returned (.map (some m))/\St w.heap.size w w' [.loc m (qd tP 3 (λy=>if y=4 then some (.func (.func 150) #[] #[]) else none) 7)]:=
 (ny w).mono λ_ _ ⟨m,d1,g1,d2,g2,d3,g3,d4,g4,d5,g5,h,S⟩=>⟨m,h,(St.del 0 (St.del 1 (St.del 2 (St.del 3 (St.del 4 (St.del 5 (St.del 6 (St.del 7 (St.del 8 (St.del 9 (St.xI 10 S rfl (λ_ h=>qV h (z:=4) rfl))))))))))))⟩
theorem aeL (w:World):Calls tP 112 #[] w λe w'=> ∃ m d3 g3,e= .returned (.map (some m))/\St w.heap.size w w' [.blk d3 #[iV 4] 3,.blk g3 #[.func (.func 148) #[] #[]] 203,.loc m (qd tP 3 (λy=>if y=5 then some (.func (.func 162) #[] #[pV d3 0,pV g3 0]) else none) 7)]:=
 (ny w).mono λ_ _ ⟨m,d1,g1,d2,g2,d3,g3,d4,g4,d5,g5,h,S⟩=>⟨m,d3,g3,h,(St.del 0 (St.del 1 (St.del 2 (St.del 3 (St.del 6 (St.del 7 (St.del 8 (St.del 9 (St.xI 10 S rfl (λ_ h=>qV h (z:=5) rfl))))))))))⟩
theorem aeM (w:World):Calls tP 112 #[] w λe w'=> ∃ m d4 g4,e= .returned (.map (some m))/\St w.heap.size w w' [.blk d4 #[iV 4] 3,.blk g4 #[.func (.func 151) #[] #[]] 203,.loc m (qd tP 3 (λy=>if y=6 then some (.func (.func 162) #[] #[pV d4 0,pV g4 0]) else none) 7)]:=
 (ny w).mono λ_ _ ⟨m,d1,g1,d2,g2,d3,g3,d4,g4,d5,g5,h,S⟩=>⟨m,d4,g4,h,(St.del 0 (St.del 1 (St.del 4 (St.del 5 (St.del 6 (St.del 7 (St.del 8 (St.del 9 (St.xI 10 S rfl (λ_ h=>qV h (z:=6) rfl))))))))))⟩
theorem aeN (w:World):Calls tP 112 #[] w λe w'=> ∃ m d5 g5,e= .returned (.map (some m))/\St w.heap.size w w' [.blk d5 #[iV 3] 3,.blk g5 #[.func (.func 152) #[] #[]] 203,.loc m (qd tP 3 (λy=>if y=7 then some (.func (.func 162) #[] #[pV d5 0,pV g5 0]) else none) 7)]:=
 (ny w).mono λ_ _ ⟨m,d1,g1,d2,g2,d3,g3,d4,g4,d5,g5,h,S⟩=>⟨m,d5,g5,h,(St.del 2 (St.del 3 (St.del 4 (St.del 5 (St.del 6 (St.del 7 (St.del 8 (St.del 9 (St.xI 10 S rfl (λ_ h=>qV h (z:=7) rfl))))))))))⟩
theorem KC (k:Int) (h:k≠3/\k≠4) (w:World):
    Calls tP 111 #[iV k] w (EU w true):=by
 have S:=St.start w;refine gK 9 Tryz.func111 ?_;refine cw [0] ?_;refine zN 18 ?_;exact ⟨rfl,S.low⟩
theorem KD (k:Int) (h:k=3\/k=4) (w:World):
    Calls tP 111 #[iV k] w (EU w false):=by
 have S:=St.start w;refine gK 9 Tryz.func111 ?_;refine cw [0] ?_;refine zN 8 ?_;by_cases h1:k=3
 ·refine zN 10 ?_;exact ⟨rfl,S.low⟩
 refine zN 3 ?_;by_cases h2:k=4
 ·refine zN 7 ?_;exact ⟨rfl,S.low⟩
 refine zN 7 ?_;omega
def II (T:List bK) (q:Int):bK:=T.getD q.toNat bG
noncomputable def nP:List dH->Nat->List bK->Option (List bK)×Nat×Int
 | [],_,T=>(some T,0,0)
 | r::rs,i,T=>if aJ r≠0 then (none,i,aJ r) else if (dV (II T r.queue) r).2≠0 then (none,i,(dV (II T r.queue) r).2) else nP rs (i+1) (T.set r.queue.toNat (dV (II T r.queue) r).1)
noncomputable def allM (l:List dH):Option (List bK)×Nat×Int:=nP l 0 [bG,bG,bG,bG]
section
variable {l:List dH} {k:Nat} {r:dH} {T:List bK} {R:bK×Int}
theorem drop_cons {α:Type} {l:List α} {k:Nat} {x:α} (h:l[k]? =some x):l.drop k=x::l.drop (k+1):=by
 obtain ⟨hk,rfl⟩:=List.getElem?_eq_some_iff.1 h;exact List.drop_eq_getElem_cons hk
theorem aiW (h:l[k]? =some r) (hf: ¬ aJ r=0):nP (l.drop k) k T=(none,k,aJ r):=by rw [drop_cons h,nP,if_pos hf]
theorem X7 (h:l[k]? =some r) (hf:aJ r=0) (hR:dV (II T r.queue) r=R) (ha: ¬ R.2=0):nP (l.drop k) k T=(none,k,R.2):=by subst hR;rw [drop_cons h,nP,if_neg (by simp [hf]),if_pos ha]
theorem Rj (h:l[k]? =some r) (hf:aJ r=0) (hR:dV (II T r.queue) r=R) (ha:R.2=0):nP (l.drop k) k T=nP (l.drop (k+1)) (k+1) (T.set r.queue.toNat R.1):=by subst hR;rw [drop_cons h,nP,if_neg (by simp [hf]),if_neg (by simp [ha])]
theorem aiX (h:l.length<=k):nP (l.drop k) k T=(some T,0,0):=by rw [List.drop_of_length_le h,nP]
end
structure BX where
 b:bK
 A:Option Addr
 c:Nat
def BX.cells (x:BX):List Value:=[iV x.b.role,iV x.b.ep,iV x.b.fr,iV x.b.tg,iV x.b.rd,.slice x.A x.b.evs.length x.c]
def Pz:BX:=⟨bG,none,0⟩
def sG:List BX:=[Pz,Pz,Pz,Pz]
theorem aiY (l:List BX): ∀ u∈l.flatMap BX.cells,u.oneCell'=true:=by
 intro u hu;rw [List.mem_flatMap] at hu;obtain ⟨z,_,hz⟩:=hu;simp [BX.cells] at hz
 rcases hz with rfl | rfl | rfl | rfl | rfl | rfl<;>rfl
def ac6 (x:BX):Fact:= .bI 6 x.A x.b.evs.length (bn x.b.evs)
def eT (bs:List BX):List Fact:=bs.map ac6
section
variable {B:Nat} {w0 w:World} {bs:List BX} {k:Nat} {y:BX}
theorem aiZ {q:Int} (h:bs[q.toNat]? =some y):II (bs.map BX.b) q=y.b:=by
 unfold II;rw [List.getD_eq_getElem?_getD,List.getElem?_map,h];rfl
theorem ac7 (pre:List Fact) (S:St B w0 w (pre++eT bs)) (h:bs[k]? =some y):Rd w w.heap.size 6 y.A y.b.evs.length (bn y.b.evs):=
 St.bI (pre.length+k) S (by rw [List.getElem?_append_right (Nat.le_add_right _ _),Nat.add_sub_cancel_left,eT,List.getElem?_map,h];rfl)
theorem St.pull {fs fs':List Fact} (σ:Nat->Nat) (S:St B w0 w fs) (hs: ∀ (i:Nat) (f:Fact),fs'[i]? =some f->fs[σ i]? =some f) (hi: ∀ i j:Nat,i≠j->i<fs'.length->j<fs'.length->σ i≠σ j):St B w0 w fs':=
 ⟨S.low,S.base,λi f h=>S.all _ f (hs i f h),λi j f g hij h1 h2=>S.sep _ _ f g (hi i j hij (List.getElem?_eq_some_iff.1 h1).1 (List.getElem?_eq_some_iff.1 h2).1) (hs i f h1) (hs j g h2)⟩
theorem ac8 (pre:List Fact) {z:BX} (S:St B w0 w (pre++(ac6 z::eT bs))) (hk:k<bs.length):St B w0 w (pre++eT (bs.set k z)):=by
 refine St.pull (λi=>if i<pre.length then i else if i=pre.length+k then pre.length else i+1) S (λi f h=>?_) (λi j hij _ _=>?_)
 ·by_cases h1:i<pre.length
  ·simp only [if_pos h1];rw [List.getElem?_append_left h1] at h⊢;exact h
  obtain ⟨d,rfl⟩: ∃ d,i=pre.length+d:=⟨i-pre.length,by omega⟩;rw [List.getElem?_append_right (Nat.le_add_right _ _),Nat.add_sub_cancel_left,eT,List.map_set,List.getElem?_set] at h;simp only [if_neg h1];by_cases h2:k=d
  ·subst h2;rw [if_pos rfl] at h;rw [if_pos rfl,List.getElem?_append_right (Nat.le_refl _),Nat.sub_self];rw [List.length_map,if_pos hk] at h;exact h
  rw [if_neg h2] at h;rw [if_neg oQ,List.getElem?_append_right oQ,show pre.length+d+1-pre.length=d+1 from by omega];exact h
 repeat' split
 all_goals omega
theorem ai0 {f1 f2:Fact} (S:St B w0 w [f1,f2]):St B w0 w (f1::f2::eT sG):=(aB (s:=6) (aB (s:=6) (aB (s:=6) (aB (s:=6) S)))).re [4,5,0,1,2,3] dQ
end
theorem qz {α:Type} {enc:α->List Value} {sz:Nat} (hsz: ∀ x,(enc x).length=sz) (z:α): ∀ (k:Nat) (l:List α),k<l.length->rU (l.flatMap enc) (k*sz) (enc z)=(l.set k z).flatMap enc
 | _,[],h=>absurd h (Nat.not_lt_zero _)
 | 0,x::l,_=>by
  rw [List.flatMap_cons,Nat.zero_mul,List.set_cons_zero,List.flatMap_cons];have: ∀ (vs us xs:List Value),us.length=vs.length->rU (us++xs) 0 vs=vs++xs:=by
   have gen: ∀ (vs us ps xs:List Value),us.length=vs.length->rU (ps++(us++xs)) ps.length vs=ps++(vs++xs):=by
    intro vs
    induction vs with
    | nil=>intro us ps xs h;rw [List.length_eq_zero_iff.1 h];rfl
    | cons v vs ih=>
     intro us ps xs h;obtain ⟨u,us,rfl⟩: ∃ u us',us=u::us':=by
      cases us with
      | nil=>simp at h
      | cons u us=>exact ⟨u,us,rfl⟩
     rw [rU];have e:(ps++(u::us++xs)).set ps.length v=(ps++[v])++(us++xs):=by simp
     rw [e];have:=ih us (ps++[v]) xs (by simpa using h);rw [List.length_append] at this;rw [show ps.length+1=ps.length+[v].length from rfl,this];simp
   intro vs us xs h;exact gen vs us [] xs h
  exact this _ _ _ (by rw [hsz,hsz])
 | k+1,x::l,h=>by
  rw [List.flatMap_cons,List.set_cons_succ,List.flatMap_cons,<-qz hsz z k l (by simpa using h)];have gen: ∀ (vs us xs:List Value) (j:Nat),rU (us++xs) (us.length+j) vs=us++rU xs j vs:=by
   intro vs
   induction vs with
   | nil=>intro us xs j;rfl
   | cons v vs ih=>
    intro us xs j;rw [rU,rU,List.set_append_right _ _ (Nat.le_add_right _ _),Nat.add_sub_cancel_left,Nat.add_assoc,ih]
  rw [Nat.succ_mul,Nat.add_comm,<-hsz x,gen]
def aoZ (w:World) (R:Option (List bK)×Nat×Int) (e:Ending) (w':World):Prop:=
 (R.1=none->e= .returned (.tuple #[.slice none 0 0,iV ((R.2.1:Nat):Int),iV R.2.2])/\Below w.heap.size w w')/\
 (∀ T,R.1=some T-> ∃ b bs,bs.map BX.b=T/\bs.length=4/\(∀ y∈bs,y.b.evs.length<=y.c)/\e= .returned (.tuple #[.slice (some ⟨b,0,none⟩) 4 4,iV ((R.2.1:Nat):Int),iV R.2.2])/\St w.heap.size w w' (.own 150 6 (.slice (some ⟨b,0,none⟩) 4 4) 4 (bs.flatMap BX.cells)::eT bs))
theorem Z9 {b:bK} {r:dH}:(dV b r).1.evs.length<=b.evs.length+1:=by
 have h:=Es (b:=b) (r:=r);unfold dV
 repeat' split
 all_goals first | exact h | simp [bG]
structure vY where
 num:Int
 ans:jo
 pl:Pl
structure iO where
 kd:Int:=0
 fr:Int:=0
 tg:Int:=0
 q:Nat:=0
 ep:Int:=0
 at_:Int:=0
 nd:Int:=0
 op:Ev:=aQ
 evs:List Ev:=[]
 last:Bool:=false
 num:Int:=0
 bF:vY:=⟨0,iH,mW⟩
structure lD where
 nd:Nat
 q:Nat
 ep:Int
 op:Ev
 ans:jo
 num:Int
inductive fO
 | serve (q:Nat) (evs:List Ev) (op:Ev) (num:Int) (a:jo)
 | begun (q:Nat) (b:bK)
 | got (q:Nat) (b:bK) (last:Bool)
 | jU (q:Nat) (b:bK) (at_:Int)
 | forget (q:Nat) (b:bK)
structure Nd where
 up:Bool
 data:List UInt8
 syn:Int
 bs:Nat->bK
 hints:Nat->Pl
 sure:Nat->Bool
 inbox:List iO
 pend:Option fO
 turn:Nat
structure Cl where
 au:Nat->Nd
 off:Dir
 fly:List iO
 shown:Nat->Nat->Int×Int
 aX:List lD
 bF:List vY
 calls:Nat
def upd {α:Type} (f:Nat->α) (k:Nat) (v:α):Nat->α:=λj=>if j=k then v else f j
def oz {α:Type} (f:Nat->Nat->α) (n q:Nat) (v:α):Nat->Nat->α:=λi j=>if i=n/\j=q then v else f i j
def Cl.put (w:Cl) (n:Nat) (x:Nd):Cl:={ w with au:=upd w.au n x }
def Cl.eO (w:Cl) (n q:Nat) (b:bK):Cl:=w.put n { w.au n with bs:=upd (w.au n).bs q b }
def Cl.send (w:Cl) (l:iO):Cl:={ w with fly:=w.fly++[l] }
def Nd.blank (x:Nd):Nd:={ x with bs:=λ_=>bG,sure:=λ_=>false,hints:=λ_=>nowhere,inbox:=[],pend:=none }
def nd0:Nd:=⟨true,[],0,λ_=>bG,λ_=>nowhere,λ_=>false,[],none,0⟩
def PD:Cl:=⟨λ_=>nd0,⟨nowhere,nowhere,nowhere,nowhere⟩,[],λ_ _=>(0,0),[],[],0⟩
def fG (l:List UInt8) (s:Int):List dH->Option (List UInt8)
 | []=>some l
 | r::rs=>if (jr l s r).2.2≠0 then none else fG (jr l s r).1 s rs
def Nd.write (x:Nd) (rs:List dH):Option Nd:=(fG x.data x.syn rs).map λd=>{ x with data:=d }
def fV (k:Int) (q:Nat) (ep pe:Int) (e:Ev):dH:=⟨k,q,ep,pe,e⟩
def Cl.tell (w:Cl) (n q:Nat) (e:Ev) (a:jo) (num:Int):Cl:=
 { w with aX:=w.aX++[⟨n,q,((w.au n).bs q).ep,e,a,num⟩],shown:=oz w.shown n q (((w.au n).bs q).ep,((w.au n).bs q).evs.length) }
def serves (b:bK):Prop:=b.role=1\/b.role=2
instance (b:bK):Decidable (serves b):=by unfold serves;exact inferInstance
def pG (n:Nat) (num:Int) (a:jo) (p:Pl):iO:={ kd:=1,fr:=n,tg:= -1,bF:=⟨num,a,p⟩ }
def Cl.done (w:Cl) (n q:Nat) (op:Ev) (num:Int) (a:jo):Cl:=
 if serves ((w.au n).bs q) then (w.tell n q op a num).send (pG n num a nowhere) else w.send (pG n num a ((w.au n).hints q))
noncomputable def Cl.serve (w:Cl) (n:Nat) (l:iO):Cl:=
 if (iK ((w.au n).bs l.q) l.op).2.2.1=false then w.done n l.q l.op l.num (iK ((w.au n).bs l.q) l.op).2.1
 else match (w.au n).write [fV 2 l.q (iK ((w.au n).bs l.q) l.op).1.ep 0 l.op] with
  | none=>w.done n l.q l.op l.num (rV 14)
  | some x=>w.put n { x with pend:=some (.serve l.q (iK ((w.au n).bs l.q) l.op).1.evs l.op l.num (iK ((w.au n).bs l.q) l.op).2.1) }
def Ay (n q:Nat) (b:bK):iO:={ kd:=3,fr:=n,tg:=b.fr,q:=q,ep:=b.ep,at_:=b.evs.length }
def Cl.have_ (w:Cl) (n q:Nat):Cl:=w.send (Ay n q ((w.au n).bs q))
noncomputable def Cl.offered (w:Cl) (n:Nat) (l:iO):Cl:=
 if (dB ((w.au n).bs l.q) l.ep l.fr).2≠0 then w
 else if (dB ((w.au n).bs l.q) l.ep l.fr).1.ep=((w.au n).bs l.q).ep then w.have_ n l.q
 else match (w.au n).write [fV 4 l.q (dB ((w.au n).bs l.q) l.ep l.fr).1.ep l.fr aQ] with
  | none=>w
  | some x=>w.put n { x with pend:=some (.begun l.q (dB ((w.au n).bs l.q) l.ep l.fr).1) }
def uy (q:Nat) (b:bK) (k m:Nat) (last:Bool):List dH:=
 ((b.evs.take m).drop k).map (λx=>fV 5 q b.ep 0 x)++if last=true then [fV 6 q b.ep 0 aQ] else []
noncomputable def Cl.got (w:Cl) (n:Nat) (l:iO):Cl:=
 if ((w.au n).bs l.q).role≠4\/((w.au n).bs l.q).fr≠l.fr then w
 else if (dw ((w.au n).bs l.q) l.ep l.at_ l.evs l.last).2=2 then w.have_ n l.q
 else if (dw ((w.au n).bs l.q) l.ep l.at_ l.evs l.last).2≠0\/(dw ((w.au n).bs l.q) l.ep l.at_ l.evs l.last).1.evs.length=((w.au n).bs l.q).evs.length then w
 else match (w.au n).write (uy l.q (dw ((w.au n).bs l.q) l.ep l.at_ l.evs l.last).1 ((w.au n).bs l.q).evs.length (l.at_.toNat+l.evs.length) l.last) with
  | none=>w
  | some x=>w.put n { x with pend:=some (.got l.q (dw ((w.au n).bs l.q) l.ep l.at_ l.evs l.last).1 l.last) }
noncomputable def UR (n q:Nat) (b:bK) (at_:Int):iO:={ kd:=4,fr:=n,tg:=b.tg,q:=q,ep:=b.ep+1,at_:=at_,evs:=(jD b at_).1,last:=(jD b at_).2.1 }
noncomputable def Cl.part (w:Cl) (n q:Nat) (at_:Int):Cl:=if (jD ((w.au n).bs q) at_).2.2≠0 then w else w.send (UR n q ((w.au n).bs q) at_)
noncomputable def Cl.caught (w:Cl) (n:Nat) (l:iO):Cl:=
 if ((w.au n).bs l.q).tg≠l.fr\/((w.au n).bs l.q).ep+1≠l.ep then w
 else if (bM ((w.au n).bs l.q) l.at_).2≠0 then w
 else if (bM ((w.au n).bs l.q) l.at_).1.role=((w.au n).bs l.q).role then (w.eO n l.q (bM ((w.au n).bs l.q) l.at_).1).part n l.q l.at_
 else match (w.au n).write [fV 3 l.q (bM ((w.au n).bs l.q) l.at_).1.ep (bM ((w.au n).bs l.q) l.at_).1.tg aQ] with
  | none=>w
  | some x=>w.put n { x with pend:=some (.jU l.q (bM ((w.au n).bs l.q) l.at_).1 l.at_) }
def Nd.hear (x:Nd) (n:Nat) (l:iO):Nd:=
 { x with hints:=if (x.hints l.q).epoch<l.ep then upd x.hints l.q ⟨l.nd,l.ep⟩ else x.hints,sure:=if l.nd=n/\(x.bs l.q).ep=l.ep then upd x.sure l.q true else x.sure }
noncomputable def Cl.learnt (w:Cl) (n:Nat) (l:iO):Cl:=
 if (fZ ((w.au n).bs l.q) l.ep).2≠0 then w.put n ((w.au n).hear n l)
 else match ((w.au n).hear n l).write [fV 7 l.q ((w.au n).bs l.q).ep 0 aQ] with
  | none=>w.put n ((w.au n).hear n l)
  | some x=>w.put n { x with pend:=some (.forget l.q (fZ ((w.au n).bs l.q) l.ep).1) }
def Cg (n q:Nat) (b:bK):iO:={ kd:=2,fr:=n,tg:=b.tg,q:=q,ep:=b.ep+1 }
def aac (n q:Nat):iO:={ kd:=5,fr:=n,tg:= -2,q:=q,nd:= -1 }
def UU (n q:Nat) (b:bK):iO:={ kd:=5,fr:=n,tg:= -2,q:=q,ep:=b.ep-1,nd:=n }
def mD (n q:Nat) (b:bK) (sure:Bool):List iO:=
 (if b.role=2\/b.role=3 then [Cg n q b] else [])++(if b.role=3 then [aac n q] else [])++if b.role=1/\1<b.ep/\sure=false then [UU n q b] else []
def Cl.aad (w:Cl) (n:Nat):Cl:=
 let q:=(w.au n).turn % 4
 { (w.put n { w.au n with turn:=(w.au n).turn+1 }) with fly:=w.fly++mD n q ((w.au n).bs q) ((w.au n).sure q) }
noncomputable def Cl.ze (w:Cl) (n:Nat):fO->Cl
 | .serve q evs op num a=>(w.eO n q { (w.au n).bs q with evs:=evs }).done n q op num a
 | .begun q b=>(w.eO n q b).have_ n q
 | .got q b last=>if last=true then ((w.eO n q b).put n { (w.eO n q b).au n with sure:=upd (w.au n).sure q false }).tell n q cO iH (-1) else (w.eO n q b).have_ n q
 | .jU q b at_=>(w.eO n q b).part n q at_
 | .forget q b=>w.eO n q b
noncomputable def Cl.handle (w:Cl) (n:Nat) (l:iO):Cl:=
 if l.kd=0 then w.serve n l else if l.kd=2 then w.offered n l else if l.kd=3 then w.caught n l else if l.kd=4 then w.got n l else w.learnt n l
noncomputable def Cl.drain (n:Nat):List iO->Cl->Cl
 | [],w=>w
 | l::r,w=>if ((w.put n { w.au n with inbox:=r }).handle n l |>.au n).pend=none then Cl.drain n r ((w.put n { w.au n with inbox:=r }).handle n l) else (w.put n { w.au n with inbox:=r }).handle n l
noncomputable def Cl.step (w:Cl) (n:Nat):Cl:=
 if (w.au n).up=false then w else match (w.au n).pend with
  | some p=>(w.put n { w.au n with syn:=(w.au n).data.length,pend:=none }).ze n p
  | none=>if ((Cl.drain n (w.au n).inbox w).au n).pend=none then (Cl.drain n (w.au n).inbox w).aad n else Cl.drain n (w.au n).inbox w
def qh (tg:Int) (q:Nat) (p:Pl):iO:={ kd:=6,fr:= -2,tg:=tg,q:=q,ep:=p.epoch,nd:=p.node }
noncomputable def gy (d:Dir) (l:iO):Dir:=if 0<=l.nd/\(Lh d l.q l.ep l.nd).2=0 then (Lh d l.q l.ep l.nd).1 else d
noncomputable def Cl.come (w:Cl) (l:iO):Cl:=
 if l.tg= -1 then { w with bF:=w.bF++[l.bF] }
 else if l.tg= -2 then
  if (bO (gy w.off l) l.q).2=0 then { w with off:=gy w.off l,fly:=w.fly++[qh l.fr l.q (bO (gy w.off l) l.q).1] } else { w with off:=gy w.off l }
 else if (w.au l.tg.toNat).up=true then w.put l.tg.toNat { w.au l.tg.toNat with inbox:=(w.au l.tg.toNat).inbox++[l] } else w
noncomputable def Cl.pick (w:Cl) (at_:Nat) (comes stays:Bool):Cl:=
 match w.fly[at_ % w.fly.length]? with
 | none=>w
 | some l=>
  let w1:=if stays=true then w else { w with fly:=w.fly.eraseIdx (at_ % w.fly.length) }
  if comes=true then w1.come l else w1
noncomputable def Cl.make (w:Cl) (n q:Nat):Cl:=
 if (w.au n).up=false\/(w.au n).pend.isSome=true\/(wV w.off q n).2≠0 then w
 else if (ji ((w.au n).bs q) 1).2≠0 then w
 else match (w.au n).write [fV 1 q (ji ((w.au n).bs q) 1).1.ep 0 aQ] with
  | none=>w
  | some x=>{ w.put n { x with syn:=x.data.length,bs:=upd x.bs q (ji ((w.au n).bs q) 1).1 } with off:=(wV w.off q n).1,shown:=oz w.shown n q (1,0) }
noncomputable def Cl.move (w:Cl) (q:Nat) (tg:Int):Cl:=
 if (bO w.off q).2≠0\/(bO w.off q).1.node=tg\/(w.au (bO w.off q).1.node.toNat).up=false then w
 else if (zH ((w.au (bO w.off q).1.node.toNat).bs q) tg).2=0/\(zH ((w.au (bO w.off q).1.node.toNat).bs q) tg).1.ep=(bO w.off q).1.epoch then
  w.eO (bO w.off q).1.node.toNat q (zH ((w.au (bO w.off q).1.node.toNat).bs q) tg).1
 else w
noncomputable def Cw (data:List UInt8) (syn:Int):Option (List bK):=(allM (uw (jL data syn).1 (jL data syn).2.1).1).1
noncomputable def bV (data:List UInt8) (syn:Int):Nat->bK:=λq=>II ((Cw data syn).getD []) q
def Cl.recovered (w:Cl) (n q:Nat) (evs:List Ev) (an:List jo):List Nat->Cl
 | []=>w
 | i::r=>Cl.recovered (w.tell n q (evs.getD i aQ) (an.getD i iH) (-1)) n q evs an r
noncomputable def Cl.recover (w:Cl) (n q:Nat):Cl:=
 if (w.shown n q).1≠((w.au n).bs q).ep then w.tell n q cO iH (-1)
 else w.recovered n q ((w.au n).bs q).evs (aP ((w.au n).bs q).evs).2.1 ((List.range ((w.au n).bs q).evs.length).drop (w.shown n q).2.toNat)
noncomputable def eU (syn:Int) (bs:Nat->bK):List Nat->List UInt8->Option (List UInt8)
 | [],d=>some d
 | q::r,d=>if (bs q).role≠1 then eU syn bs r d else if (fJ (bs q)).2≠0 then none else
  match fG d syn [fV 2 q (bs q).ep 0 cO] with
  | none=>none
  | some d'=>eU syn bs r d'
noncomputable def Cl.woken (n:Nat) (bs:Nat->bK):List Nat->Cl->Cl
 | [],w=>w
 | q::r,w=>if (bs q).role≠1 then Cl.woken n bs r w else Cl.woken n bs r (((w.recover n q).eO n q (fJ (bs q)).1).tell n q cO iH (-1))
noncomputable def Cl.start (w:Cl) (n:Nat):Cl:=
 if (w.au n).up=true then w else
 match eU (jL (w.au n).data (w.au n).syn).2.1 (bV (w.au n).data (w.au n).syn) [0,1,2,3] (jL (w.au n).data (w.au n).syn).1 with
 | none=>w
 | some d=>Cl.woken n (bV (w.au n).data (w.au n).syn) [0,1,2,3] (w.put n { (w.au n).blank with up:=true,data:=d,syn:=d.length,bs:=bV (w.au n).data (w.au n).syn })
def Cl.crash (w:Cl) (n:Nat) (keep:Int):Cl:=
 if (w.au n).up=true then w.put n { (w.au n).blank with up:=false,data:=(oN (w.au n).data (w.au n).syn keep).1,syn:=(oN (w.au n).data (w.au n).syn keep).2.1 } else w
def Ac.op (a:Ac):Ev:=⟨a.ek,a.ep,a.ei,a.eb,a.eh,a.en⟩
def UW (n:Int) (q:Nat) (op:Ev) (num:Int):iO:={ kd:=0,fr:= -1,tg:=n,q:=q,op:=op,num:=num }
noncomputable def Cl.all (w:Cl):Cl:=w.fly.foldl Cl.come { w with fly:=[] }
noncomputable def Cl.act (w:Cl) (a:Ac):Cl:=
 if a.kd=1 then w.make a.nd.toNat a.qu.toNat
 else if a.kd=2 then { w with fly:=w.fly++[UW a.nd a.qu.toNat a.op w.calls],calls:=w.calls+1 }
 else if a.kd=3 then w.step a.nd.toNat
 else if a.kd=4\/a.kd=5\/a.kd=6 then w.pick a.at_.toNat (decide (a.kd≠5)) (decide (a.kd=6))
 else if a.kd=7 then w.all
 else if a.kd=8 then w.crash a.nd.toNat a.kp
 else if a.kd=9 then w.start a.nd.toNat
 else w.move a.qu.toNat a.nd
noncomputable def Cl.run (w:Cl) (l:List Ac):Cl:=l.foldl Cl.act w
noncomputable def Nd.view (x:Nd):Nat->bK:=if x.up=true then x.bs else bV x.data x.syn
theorem uP: ∀ (a b:List Ev) (Q:Qd) (an:List jo),iJ Q an (a++b)=(iJ Q an a).bind λr=>iJ r.1 r.2 b
 | [],b,Q,an=>rfl
 | e::a,b,Q,an=>by
  simp only [List.cons_append,iJ]
  split
  ·exact uP a b _ _
  rfl
def good (l:List Ev):Prop:=(aP l).2.2=0
section
variable {l:List Ev} {e:Ev} {k:Nat}
theorem uI:good l↔l.length<=2000/\ ∃ r,iJ gW [] l=some r:=by
 unfold good
 constructor
 ·intro h;refine ⟨gG h,?_⟩;have hl: ¬ 2000<l.length:=by have:=gG h;omega
  cases hr:iJ gW [] l with
  | none=>rw [JJ hl hr] at h;cases h
  | some r=>exact ⟨r,rfl⟩
 rintro ⟨h,r,hr⟩;rw [Ec oQ hr]
theorem IJ {r:Qd×List jo} (h:l.length<=2000) (hr:iJ gW [] l=some r):aP l=(r.1,r.2,0):=Ec oQ hr
theorem zT:good []:=uI.2 ⟨by simp,_,rfl⟩
theorem Rk {a b:List Ev} (h:good (a++b)):good a:=by
 obtain ⟨h1,r,hr⟩:=uI.1 h;rw [uP] at hr;rw [List.length_append] at h1
 cases ha:iJ gW [] a with
 | none=>rw [ha] at hr;cases hr
 | some s=>exact uI.2 ⟨by omega,s,ha⟩
theorem Bp (h:good l):good (l.take k):=Rk (b:=l.drop k) (by rwa [List.take_append_drop])
theorem ko (h:good l):l.length<=2000:=gG h
theorem good_step (h:good (l++[e])):(jS (aP l).1 e).2.2.2=0/\(jS (aP l).1 e).2.2.1=true/\aP (l++[e])=((jS (aP l).1 e).1,(aP l).2.1++[(jS (aP l).1 e).2.1],0):=by
 obtain ⟨h1,r,hr⟩:=uI.1 h;rw [List.length_append] at h1;rw [uP] at hr
 cases ha:iJ gW [] l with
 | none=>rw [ha] at hr;cases hr
 | some s=>
  have hs:=IJ oQ ha;rw [ha] at hr;simp only [Option.bind_some,iJ] at hr
  split at hr
  ·rename_i hc
   rw [hs];refine ⟨hc.1,hc.2,?_⟩
   cases hr;refine IJ (r:=((jS s.1 e).1,s.2++[(jS s.1 e).2.1])) (by rw [List.length_append];exact h1) ?_;rw [uP,ha];simp only [Option.bind_some,iJ];rw [if_pos hc]
  cases hr
theorem aae (h:good l) (hl:l.length<2000) (hc:(jS (aP l).1 e).2.2.2=0) (hd:(jS (aP l).1 e).2.2.1=true):good (l++[e]):=by
 obtain ⟨h1,s,ha⟩:=uI.1 h;have hs:=IJ h1 ha;rw [hs] at hc hd;refine uI.2 ⟨by simp;omega,((jS s.1 e).1,s.2++[(jS s.1 e).2.1]),?_⟩;rw [uP,ha];simp only [Option.bind_some,iJ];rw [if_pos ⟨hc,hd⟩]
theorem aaf (h:good l):(aP l).2.1.length=l.length:=by
 obtain ⟨h1,s,ha⟩:=uI.1 h;rw [IJ h1 ha];have:=(Df (by simp [gW]) ha).2;simpa using this
theorem Bt (hk:k<l.length):l.take (k+1)=l.take k++[l[k]]:=by rw [List.take_add_one,List.getElem?_eq_getElem hk];rfl
end
noncomputable def rp:Qd->List lD->Option Qd
 | x,[]=>some x
 | x,s::r=>if (jS x s.op).2.2.2=0/\(jS x s.op).2.1=s.ans then rp (jS x s.op).1 r else none
theorem ac9: ∀ (a b:List lD) (x:Qd),rp x (a++b)=(rp x a).bind λy=>rp y b
 | [],b,x=>rfl
 | s::a,b,x=>by
  simp only [List.cons_append,rp]
  split
  ·exact ac9 a b _
  rfl
theorem ai1 {x y:Qd} {a:List lD} {s:lD} (h:rp x a=some y) (hc:(jS y s.op).2.2.2=0) (ha:(jS y s.op).2.1=s.ans):rp x (a++[s])=some (jS y s.op).1:=by
 rw [ac9,h];simp only [Option.bind_some,rp];rw [if_pos ⟨hc,ha⟩]
structure Gh where
 m:Nat
 own:Nat->Nat
 len:Nat->Nat
 G:List Ev
 F:Nat
 t:Nat
def Gh.bd (g:Gh) (k:Nat):Nat:=if k=g.m then g.G.length else g.len k
def Gh.o (g:Gh):Nat:=g.own g.m
def Oth (g:Gh) (n:Nat) (b:bK):Prop:=
 (b.role=0/\0<=b.ep/\b.ep<g.m)\/
 (∃ k:Nat,b.role=3/\b.ep=k/\1<=k/\k<g.m/\g.own k=n/\b.evs=g.G.take (g.len k)/\b.tg=g.own (k+1))\/
 (∃ k:Nat,b.role=4/\b.ep=(k:Int)+1/\1<=k/\k<=g.m/\b.fr=g.own k/\b.evs=g.G.take b.evs.length/\b.evs.length<=g.bd k/\(k<g.m->g.own (k+1)≠n))
def LOk (g:Gh) (V:Nat->bK) (pl:Pl) (l:iO):Prop:=
 (l.kd=2-> ∃ k:Nat,l.ep=(k:Int)+1/\1<=k/\k<=g.m/\l.fr=g.own k)/\
 (l.kd=4-> ∃ k:Nat,l.ep=(k:Int)+1/\1<=k/\k<=g.m/\l.fr=g.own k/\0<=l.at_/\l.evs=(g.G.drop l.at_.toNat).take l.evs.length/\l.at_.toNat+l.evs.length<=g.bd k/\
  (l.last=true->(k<g.m/\(g.own (k+1):Int)=l.tg)\/(k=g.m/\(V g.o).role=3/\(V g.o).tg=l.tg/\l.at_.toNat+l.evs.length=g.G.length)))/\
 (l.kd=5->0<=l.nd-> ∃ k:Nat,l.ep=k/\1<=k/\k<g.m/\(g.own (k+1):Int)=l.nd)/\
 (l.kd=6-> ∃ k:Nat,l.ep=k/\1<=k/\(k:Int)<=pl.epoch/\(g.own k:Int)=l.nd)
def Rl (g:Gh) (V:Nat->bK) (n:Nat):fO->Prop
 | .serve _ evs op _ a=>n=g.o/\serves (V n)/\evs=g.G++[op]/\(jS (aP g.G).1 op).2.1=a/\good evs
 | .begun _ b=> ∃ k:Nat,b=⟨4,(k:Int)+1,g.own k,0,0,[]⟩/\1<=k/\k<=g.m/\((V n).role=0\/(V n).role=4)/\(V n).ep< (k:Int)+1
 | .got _ b last=>(V n).role=4/\(last=false-> ∃ j,b={ V n with evs:=g.G.take j }/\(V n).evs.length<=j/\ ∀ k:Nat,(V n).ep=(k:Int)+1->j<=g.bd k)/\
   (last=true->(V n).ep=(g.m:Int)+1/\(V g.o).role=3/\(V g.o).tg=n/\b=⟨1,(g.m:Int)+1,0,0,0,g.G++[cO]⟩/\good (g.G++[cO]))
 | .jU _ b _=>n=g.o/\(V n).role=2/\b={ V n with role:=3,rd:=0 }
 | .forget _ b=>(V n).role=3/\b=⟨0,(V n).ep,0,0,0,[]⟩/\(V n).ep<g.m
structure X8 (own:Nat->Nat) (t:Nat) (sv:List lD):Prop where
 each: ∀ s∈sv,∃ k:Nat,s.ep=k/\1<=k/\k<=t/\s.nd=own k
 two: ∀ i a b,sv[i]? =some a->sv[i+1]? =some b->b.ep=a.ep\/(b.ep=a.ep+1/\b.op=cO)
 last: ∀ s,sv.getLast?=some s->s.ep=t
 nil:sv=[]->t=1
structure Inv (g:Gh) (V:Nat->bK) (P:Nat->Option fO) (U:Nat->Bool) (Lt:iO->Prop) (pl:Pl) (sh:Nat->Int×Int) (sv:List lD):Prop where
 m1:1<=g.m
 ayQ: ∀ k,1<=k->k<=g.m->g.own k<5
 adj: ∀ k,1<=k->k<g.m->g.own k≠g.own (k+1)
 dir: ∃ d:Nat,pl=⟨g.own d,d⟩/\1<=d/\(d=g.m\/d+1=g.m)
 aep:(V g.o).ep=g.m
 aev:(V g.o).evs=g.G
 arl:(V g.o).role=1\/(V g.o).role=2\/(V g.o).role=3
 agd:(V g.o).role≠1->pl.epoch=g.m/\(V g.o).tg≠g.o/\0<=(V g.o).tg/\(V g.o).tg<5
 gd:good g.G
 PE: ∀ n,n<5->n≠g.o->Oth g n (V n)
 ge: ∀ k,1<=k->k<=g.m->(k:Int)<=(V (g.own k)).ep
 brk: ∀ k,1<=k->k<g.m->g.G[g.len k]? =some cO/\g.len k<g.bd (k+1)
 F4: ∀ l,Lt l->LOk g V pl l
 zf: ∀ n,n<5-> ∀ p,P n=some p->U n=true/\Rl g V n p
 tol:(g.t=g.m/\sh g.o=((g.m:Int),(g.F:Int))/\g.F<=g.G.length)\/(g.t+1=g.m/\(sh g.o).1<g.m/\U g.o=false/\g.F+1=g.G.length/\g.G[g.F]? =some cO)
 upF:U g.o=true->g.F=g.G.length
 slF:(V g.o).role=3->g.F=g.G.length
 sho: ∀ n,n<5->n≠g.o->(sh n).1<g.m
 rps:rp gW sv=some (aP (g.G.take g.F)).1
 svs:X8 g.own g.t sv
section
variable {g:Gh} {V:Nat->bK} {P:Nat->Option fO} {U:Nat->Bool} {Lt:iO->Prop} {pl:Pl} {sh:Nat->Int×Int} {sv:List lD} {n:Nat} {l:iO} {b:bK}
theorem Inv.ayR (I:Inv g V P U Lt pl sh sv) {k:Nat} (h:1<=k) (h1:k<=g.m):g.bd k<=g.G.length:=by
 unfold Gh.bd
 split
 ·exact Nat.le_refl _
 have:=(I.brk k h oQ).1;exact Nat.le_of_lt (List.getElem?_eq_some_iff.1 this).1
theorem Inv.aky (I:Inv g V P U Lt pl sh sv) {k:Nat} (h:1<=k) (h1:k<g.m):g.len k<g.G.length:=(List.getElem?_eq_some_iff.1 (I.brk k h h1).1).1
theorem Inv.who (I:Inv g V P U Lt pl sh sv) (hn:n<5) (h:serves (V n)):n=g.o:=by
 by_cases e:n=g.o
 ·exact e
 have:=I.PE n hn e;unfold serves at h
 rcases this with ⟨h1,_⟩ | ⟨k,h1,_⟩ | ⟨k,h1,_⟩<;>omega
theorem upd_same {α:Type} (f:Nat->α) (k:Nat) (v:α):upd f k v k=v:=if_pos rfl
theorem upd_ne {α:Type} {f:Nat->α} {k j:Nat} {v:α} (h:j≠k):upd f k v j=f j:=if_neg h
theorem aH {α:Type} {f:Nat->α} {k:Nat} {v:α} (h:f k=v):upd f k v=f:=by
 funext j
 unfold upd
 split
 ·rename_i e;rw [e,h]
 rfl
theorem Inv.down (I:Inv g V P U Lt pl sh sv) (n:Nat):Inv g V (upd P n none) (upd U n false) Lt pl sh sv:=
 { I with
  zf:=λk hk p hp=>by
   by_cases e:k=n
   ·subst e;rw [upd_same] at hp;cases hp
   rw [upd_ne e] at hp⊢;exact I.zf k hk p hp
  tol:=by
   rcases I.tol with h | ⟨h1,h2,h3,h4⟩
   ·exact .inl h
   refine .inr ⟨h1,h2,?_,h4⟩;by_cases e:g.o=n
   ·rw [e,upd_same]
   rw [upd_ne e];exact h3
  upF:=λh=>by
   by_cases e:g.o=n
   ·rw [e,upd_same] at h;cases h
   rw [upd_ne e] at h;exact I.upF h }
theorem Inv.up (I:Inv g V P U Lt pl sh sv) (n:Nat) (h:n=g.o->g.t=g.m/\g.F=g.G.length):Inv g V P (upd U n true) Lt pl sh sv:=
 { I with
  zf:=λk hk p hp=>by
   obtain ⟨h1,h2⟩:=I.zf k hk p hp;refine ⟨?_,h2⟩;by_cases e:k=n
   ·rw [e,upd_same]
   rw [upd_ne e];exact h1
  tol:=by
   by_cases e:g.o=n
   ·obtain ⟨h1,h2⟩:=h e.symm
    rcases I.tol with h | ⟨h3,_⟩
    ·exact .inl h
    omega
   rw [upd_ne e];exact I.tol
  upF:=λh'=>by
   by_cases e:g.o=n
   ·exact (h e.symm).2
   rw [upd_ne e] at h';exact I.upF h' }
theorem Rl.mono {V':Nat->bK} {p:fO} (h:Rl g V n p) (hv:V' n=V n) (ho:(V g.o).role=3->(V' g.o).role=3/\(V' g.o).tg=(V g.o).tg):Rl g V' n p:=by
 cases p with
 | serve q evs op num a=>unfold Rl at h⊢;rw [hv];exact h
 | begun q b=>unfold Rl at h⊢;rw [hv];exact h
 | got q b last=>
  unfold Rl at h⊢;rw [hv];refine ⟨h.1,h.2.1,λhl=>?_⟩;obtain ⟨h1,h2,h3,h4⟩:=h.2.2 hl;obtain ⟨h5,h6⟩:=ho h2;exact ⟨h1,h5,h6.trans h3,h4⟩
 | jU q b at_=>unfold Rl at h⊢;rw [hv];exact h
 | forget q b=>unfold Rl at h⊢;rw [hv];exact h
theorem LOk.mono {V':Nat->bK} (h:LOk g V pl l) (ho:(V g.o).role=3->(V' g.o).role=3/\(V' g.o).tg=(V g.o).tg):LOk g V' pl l:=by
 obtain ⟨h1,h2,h3⟩:=h;refine ⟨h1,λhk=>?_,h3⟩;obtain ⟨k,a,b,c,d,e,f,i,j⟩:=h2 hk;refine ⟨k,a,b,c,d,e,f,i,λhl=>?_⟩
 rcases j hl with j | ⟨j1,j2,j3,j4⟩
 ·exact .inl j
 obtain ⟨h5,h6⟩:=ho j2;exact .inr ⟨j1,h5,h6.trans j3,j4⟩
theorem Et {l x:List Ev} {k:Nat} (h:k<=l.length):(l++x).take k=l.take k:=List.take_append_of_le_length h
theorem Ma {l x:List Ev} {a k:Nat} (h:a+k<=l.length):((l++x).drop a).take k=(l.drop a).take k:=by
 rw [List.drop_append_of_le_length oQ,List.take_append_of_le_length (by rw [List.length_drop];omega)]
def Gh.app (g:Gh) (e:Ev):Gh:={ g with G:=g.G++[e] }
theorem Gh.Nh {g:Gh} {e:Ev} {k:Nat} (h:g.bd k<=g.G.length):g.bd k<=(g.app e).bd k:=by
 unfold Gh.bd Gh.app at*;dsimp only
 split
 ·rw [List.length_append];omega
 exact Nat.le_refl _
theorem Inv.append {e:Ev} (I:Inv g V P U Lt pl sh sv) (hp:P g.o=none) (hu:U g.o=false) (hr:(V g.o).role≠3) (ht:g.t=g.m) (hg:good (g.G++[e])) (hb:b.ep=(V g.o).ep) (hb1:b.role=(V g.o).role) (hb2:b.tg=(V g.o).tg) (hb3:b.evs=g.G++[e]):
  Inv (g.app e) (upd V g.o b) P U Lt pl sh sv:=by
 have ho:upd V g.o b g.o=b:=upd_same _ _ _;have hoo:(g.app e).o=g.o:=rfl;have hle:=λk h1 h2=>I.ayR (k:=k) h1 h2;have hF:g.F<=g.G.length:=by rcases I.tol with ⟨_,_,h⟩ | ⟨h,_⟩<;>omega
 refine ⟨I.m1,I.ayQ,I.adj,I.dir,?_,?_,?_,?_,hg,?_,?_,?_,?_,?_,?_,?_,?_,I.sho,?_,I.svs⟩
 ·rw [hoo,ho,hb];exact I.aep
 ·rw [hoo,ho,hb3];rfl
 ·rw [hoo,ho,hb1];exact I.arl
 ·rw [hoo,ho,hb1,hb2];exact I.agd
 ·intro n hn hno;rw [hoo] at hno;rw [upd_ne hno]
  rcases I.PE n hn hno with h | ⟨k,h1,h2,h3,h4,h5,h6,h7⟩ | ⟨k,h1,h2,h3,h4,h5,h6,h7,h8⟩
  ·exact .inl h
  ·refine .inr (.inl ⟨k,h1,h2,h3,h4,h5,?_,h7⟩)
   show _=(g.G++[e]).take _
   have:=I.aky h3 h4;rw [h6];exact (Et (Nat.le_of_lt this)).symm
  refine .inr (.inr ⟨k,h1,h2,h3,h4,h5,?_,Nat.le_trans h7 (Gh.Nh (hle k h3 h4)),h8⟩)
  show _=(g.G++[e]).take _
  have:=hle k h3 h4;rw [Et oQ];exact h6
 ·intro k h1 h2;have:=I.ge k h1 h2;by_cases e:g.own k=g.o
  ·show (k:Int)<=(upd V g.o b (g.own k)).ep
   rw [e] at this⊢;rw [ho,hb];exact this
  show (k:Int)<=(upd V g.o b (g.own k)).ep
  rw [upd_ne e];exact this
 ·intro k h1 h2;obtain ⟨h3,h4⟩:=I.brk k h1 h2;refine ⟨?_,Nat.lt_of_lt_of_le h4 (Gh.Nh (hle (k+1) oQ h2))⟩
  show (g.G++[e])[g.len k]? =_
  rw [List.getElem?_append_left (I.aky h1 h2)];exact h3
 ·intro l hl;obtain ⟨h1,h2,h3⟩:=I.F4 l hl;refine ⟨h1,λhk=>?_,h3⟩;obtain ⟨k,a,b',c,d,e',f,i,j⟩:=h2 hk;have hbd:=hle k b' c;refine ⟨k,a,b',c,d,e',?_,Nat.le_trans i (Gh.Nh hbd),λhlast=>?_⟩
  ·show _=((g.G++[e]).drop _).take _
   rw [Ma oQ];exact f
  rcases j hlast with j | ⟨_,j2,_⟩
  ·exact .inl j
  exact absurd j2 hr
 ·intro k hk p hk';obtain ⟨j1,j2⟩:=I.zf k hk p hk';refine ⟨j1,?_⟩;by_cases e':k=g.o
  ·subst e';rw [hp] at hk';cases hk'
  cases p with
  | serve q evs op num a=>exact absurd j2.1 e'
  | begun q b'=>unfold Rl at j2⊢;rw [upd_ne e'];exact j2
  | got q b' last=>
   unfold Rl at j2⊢;rw [upd_ne e'];refine ⟨j2.1,λhl=>?_,λhl=>?_⟩
   ·obtain ⟨j,a1,a2,a3⟩:=j2.2.1 hl
    rcases I.PE k hk e' with h | ⟨k',h,_⟩ | ⟨k',h,h1,h2,h3,_⟩
    ·omega
    ·omega
    have hj:=a3 k' h1;have hbd:=hle k' h2 h3;refine ⟨j,?_,a2,λk2 hk2=>?_⟩
    ·show _={ V k with evs:=(g.G++[e]).take j }
     rw [Et oQ];exact a1
    have:k2=k':=oQ;subst this;exact Nat.le_trans hj (Gh.Nh hbd)
   exact absurd (j2.2.2 hl).2.1 hr
  | jU q b' at_=>exact absurd j2.1 e'
  | forget q b'=>unfold Rl at j2⊢;rw [upd_ne e'];exact j2
 ·rcases I.tol with ⟨h1,h2,h3⟩ | ⟨h1,_⟩
  ·exact .inl ⟨h1,h2,by show g.F<=(g.G++[e]).length;rw [List.length_append];omega⟩
  omega
 ·intro h;rw [hoo,hu] at h;cases h
 ·intro h;rw [hoo,ho,hb1] at h;exact absurd h hr
 show rp gW sv=some (aP ((g.G++[e]).take g.F)).1
 rw [Et hF];exact I.rps
theorem X8.app {own:Nat->Nat} {t:Nat} (ht:1<=t): ∀ {sv2 sv:List lD},X8 own t sv->(∀ s∈sv2,s.ep=t/\s.nd=own t)->X8 own t (sv++sv2)
 | [],sv,h,_=>by rw [List.append_nil];exact h
 | s::r,sv,h,h2=>by
  have hs:=h2 s iQ;have h1:X8 own t (sv++[s]):=by
   refine ⟨λx hx=>?_,λi a b ha hb=>?_,λx hx=>?_,λhn=>by simp at hn⟩
   ·rcases List.mem_append.1 hx with hx | hx
    ·exact h.each x hx
    rw [List.mem_singleton] at hx;subst hx;exact ⟨t,hs.1,ht,Nat.le_refl _,hs.2⟩
   ·by_cases hi:i+1<sv.length
    ·rw [List.getElem?_append_left oQ] at ha;rw [List.getElem?_append_left hi] at hb;exact h.two i a b ha hb
    have hil:i+1< (sv++[s]).length:=(List.getElem?_eq_some_iff.1 hb).1;rw [List.length_append,List.length_singleton] at hil;rw [List.getElem?_append_left oQ] at ha;rw [List.getElem?_append_right oQ,show i+1-sv.length=0 by omega] at hb
    cases hb;refine .inl ?_;rw [hs.1];refine (h.last a ?_).symm;rw [List.getLast?_eq_getElem?,show sv.length-1=i by omega];exact ha
   rw [List.getLast?_concat] at hx
   cases hx;exact hs.1
  have:=X8.app ht (sv2:=r) h1 λx hx=>h2 x (by simp [hx]);rwa [List.append_assoc] at this
theorem X8.own {own own':Nat->Nat} {t:Nat} (h:X8 own t sv) (he: ∀ k,k<=t->own' k=own k):X8 own' t sv:=
 ⟨λs hs=>by obtain ⟨k,a,b,c,d⟩:=h.each s hs;exact ⟨k,a,b,c,by rw [he k c];exact d⟩,h.two,h.last,h.nil⟩
def Gh.all (g:Gh):Gh:={ g with F:=g.G.length,t:=g.m }
theorem Inv.told (I:Inv g V P U Lt pl sh sv) (ht:g.t=g.m) {sv2:List lD} (hrp:rp gW (sv++sv2)=some (aP g.G).1) (he: ∀ s∈sv2,s.ep=g.m/\s.nd=g.o):Inv g.all V P U Lt pl (upd sh g.o ((g.m:Int),(g.G.length:Int))) (sv++sv2):=
 { I with
  tol:= .inl ⟨rfl,upd_same _ _ _,Nat.le_refl _⟩
  upF:=λ_=>rfl
  slF:=λ_=>rfl
  sho:=λn hn hno=>by
   have:n≠g.o:=hno;rw [upd_ne this];exact I.sho n hn hno
  rps:=by show rp _ _=some (aP (g.G.take g.G.length)).1;rw [List.take_length];exact hrp
  svs:=by
   have h:=I.svs;rw [ht] at h;exact X8.app I.m1 h he }
def Gh.act (g:Gh) (T:Nat):Gh:={ g with m:=g.m+1,own:=upd g.own (g.m+1) T,len:=upd g.len g.m g.G.length,G:=g.G++[cO] }
end
theorem Eu {k z:Int} {F:FuncId} {AR:bK×Int} (ro ep fr tg rd:Int) (A:Option Addr) (c:Nat) (l:List Ev) (qu e pe:Int) (x:Ev) (hk:k≠3/\k≠4) (hkr: -9223372036854775808<=k/\k<=9223372036854775807) (hact:ku ⟨ro,ep,fr,tg,rd,l⟩ ⟨k,qu,e,pe,x⟩=if ¬ (ro=z/\ep=e) then (bG,3) else AR)
    (hra: ∀ w,Calls tP 112 #[] w λe w'=> ∃ m d g,e= .returned (.map (some m))/\St w.heap.size w w' [.blk d #[iV z] 3,.blk g #[.func (.func F) #[] #[]] 203,.loc m (qd tP 3 (λy=>if y=k then some (.func (.func 162) #[] #[pV d 0,pV g 0]) else none) 7)])
    (ho: ∀ (b1 b2:Nat) (_:l.length<=2000) (_:0<=e/\e<=1048576) (w:World) (_:Rd w w.heap.size 6 A l.length (bn l)) (_:l.length*48<=reachBytes) (_:Rd w w.heap.size 1 (aD b1 0) 1 [iV z]) (_:Rd w w.heap.size 1 (aD b2 0) 1 [.func (.func F) #[] #[]]),Calls tP 162 #[.agg #[iV ro,iV ep,iV fr,iV tg,iV rd,.slice A l.length c],.agg (rR k qu e pe x),pV b1 0,pV b2 0] w (kJ w (if ¬ (ro=z/\ep=e) then (bG,3) else AR)))
    (hlc:l.length<=c) (w:World) (h:Rd w w.heap.size 6 A l.length (bn l)) (hb:l.length*48<=reachBytes):
    Calls tP 81 #[.agg #[iV ro,iV ep,iV fr,iV tg,iV rd,.slice A l.length c],.agg (rR k qu e pe x)] w (mo w (dV ⟨ro,ep,fr,tg,rd,l⟩ ⟨k,qu,e,pe,x⟩)):=by
 have S:=(St.start w).bX h;have hb2:=hb;unfold reachBytes at hb2;obtain ⟨R,hR⟩: ∃ R,ku ⟨ro,ep,fr,tg,rd,l⟩ ⟨k,qu,e,pe,x⟩=R:=⟨_,rfl⟩;have hM:=hR;rw [hact] at hM
 try dsimp only at hM
 have akz:R.1.evs.length<=l.length+1:=by rw [<-hR];exact Es
 refine gK 54 Tryz.func81 ?_;refine cw [0,1] ?_;refine zN 2 ?_;refine iT S ?_;intro b1 w2 S3;refine iT S3 ?_;intro b4 w5 S6;refine fT S6 fM ?_;intro b7 w8 S9;refine zN 7 ?_;refine cab eQ S9 (dS ro ep fr tg rd A c l _ (St.rd 3 S9 rfl) oQ) ?_;intro Zo rJ;refine zN 6 ?_;by_cases oH:aj ⟨ro,ep,fr,tg,rd,l⟩=0
 ·have hln:=gG (eH oH).2;dsimp only at hln;refine zN 10 ?_;refine cab eQ rJ (jI ⟨k,qu,e,pe,x⟩ _) ?_;intro LB iW;refine zN 6 ?_;by_cases uO:aJ ⟨k,qu,e,pe,x⟩=0
  ·have hrz:=zP uO;dsimp only at hrz;refine zN 11 ?_;by_cases h18:ro=2
   ·refine zN 16 ?_;refine vv jm ?_;refine sa 0 iW kQ ?_;intro BZ kD;refine zN 6 ?_;have nO:=kD.aU [3,2,1,0];rw [Aw oH uO uQ];exact ⟨none,0,Nat.le_refl 0,rfl,aB nO⟩
   refine zN 4 ?_;refine xS eQ (KC k hk _) ?_;rintro _ Px ⟨rfl,Ni⟩;refine ⟨_,rfl,?_⟩;have kS:=iW.on Ni;refine zN 3 ?_;by_cases qo:pe=0
   ·refine zN 8 ?_;refine mU (X:=Nat×(Option Addr)×Nat×Nat×Nat×Nat) (λxv=>[(4,pV b7 0),(5,iV 0),(8,pV xv.1 0),(9,iV R.2)]) (λxv wr=>St w.heap.size w wr [.blk xv.1 (bR R.1 xv.2.1 xv.2.2.1) 150,.bI 6 xv.2.1 R.1.evs.length ((R.1.evs).flatMap Ev.cells),.blk xv.2.2.2.1 #[iV z] 3,.blk xv.2.2.2.2.1 #[.func (.func F) #[] #[]] 203,.loc xv.2.2.2.2.2 (qd tP 3 (λy=>if y=k then some (.func (.func 162) #[] #[pV xv.2.2.2.1 0,pV xv.2.2.2.2.1 0]) else none) 7),.blk b7 zB 150,.blk b4 (rR k qu e pe x) 155,.blk b1 #[iV ro,iV ep,iV fr,iV tg,iV rd,.slice A l.length c] 150,.rd 6 A l.length ((l).flatMap Ev.cells)]) ?_ ?_
    ·have nV:=kS.drew;refine aF 13 nV [] ?_;refine aI 4 ?_;refine fu (n:=8) (r:=0) (s:=10) kQ ?_ ?_
     ·refine j5 0 rfl eQ (hra _) ?_;rintro _ w34 ⟨m31,d32,g33,rfl,T36⟩;refine ⟨_,rfl,?_⟩;have uj:=nV.ext T36 rfl;refine dJ ?_;refine fu (n:=7) (r:=3) (s:=10) kQ ?_ ?_
      ·refine je (i:=3) rfl rfl (v:= .func (.func 162) #[] #[pV d32 0,pV g33 0]) (wn rfl) rfl rfl (jX 2 uj rfl rfl rfl rfl Tryz.underlying3 Tryz.underlying204 (Tryz.zeroValue203 _) hkr (if_pos rfl)) ?_;refine dJ ?_;refine fu (n:=6) (r:=6) (s:=10) kQ ?_ ?_
       ·have HC:=ho d32 g33 oQ oQ _ (St.rd 6 uj rfl) hb (St.lI (xs:=[iV z]) 0 uj rfl rfl rfl) (St.lI (xs:=[.func (.func F) #[] #[]]) 1 uj rfl rfl rfl);rw [hM] at HC;refine mP 6 rfl eQ (HC) ?_;rintro _ w40 ⟨A37,c38,aDd,rfl,T42⟩;refine ⟨_,rfl,?_⟩;have Jf:=uj.ext T42 rfl;clear HC;refine aI 4 ?_;refine aY 10 ?_;refine lM 10 rfl Jf fM ?_;intro b46 w47 pW;refine dJ ?_;refine aY 11 ?_;refine sn 11 rfl 0 pW kQ ?_;intro w49 wZ;refine aI 3 ?_;refine dD (b46,A37,c38,d32,g33,m31) ?_ mG;exact wZ
       refine lM 10 rfl uj fM ?_;intro b52 w53 lC;refine dJ ?_;refine aY 6 ?_;have HC:=ho d32 g33 oQ oQ _ (St.rd 7 lC rfl) hb (St.lI (xs:=[iV z]) 1 lC rfl rfl rfl) (St.lI (xs:=[.func (.func F) #[] #[]]) 2 lC rfl rfl rfl);rw [hM] at HC;refine mP 6 rfl eQ (HC) ?_;rintro _ w58 ⟨A55,c56,aDe,rfl,T60⟩;refine ⟨_,rfl,?_⟩;have Bl:=lC.ext T60 rfl;clear HC;refine aI 4 ?_;refine aY 11 ?_;refine sn 11 rfl 1 Bl kQ ?_;intro Uc yN;refine aI 3 ?_;have qO:St w.heap.size w Uc [_,_,_,_,_,_,_,_,_]:=yN.re [1,0,2,3,4,5,6,7,8] dQ;refine dD (b52,A55,c56,d32,g33,m31) ?_ mG;exact qO
      refine lM 10 rfl uj fM ?_;intro b68 w69 r9;refine dJ ?_;refine aY 3 ?_;refine je (i:=3) rfl rfl (v:= .func (.func 162) #[] #[pV d32 0,pV g33 0]) (wn rfl) rfl rfl (jX 3 r9 rfl rfl rfl rfl Tryz.underlying3 Tryz.underlying204 (Tryz.zeroValue203 _) hkr (if_pos rfl)) ?_;refine dJ ?_;refine aY 6 ?_;have HC:=ho d32 g33 oQ oQ _ (St.rd 7 r9 rfl) hb (St.lI (xs:=[iV z]) 1 r9 rfl rfl rfl) (St.lI (xs:=[.func (.func F) #[] #[]]) 2 r9 rfl rfl rfl);rw [hM] at HC;refine mP 6 rfl eQ (HC) ?_;rintro _ w74 ⟨A71,c72,aDf,rfl,T76⟩;refine ⟨_,rfl,?_⟩;have DI:=r9.ext T76 rfl;clear HC;refine aI 4 ?_;refine aY 11 ?_;refine sn 11 rfl 1 DI kQ ?_;intro w80 tO;refine aI 3 ?_;have zK:St w.heap.size w w80 [_,_,_,_,_,_,_,_,_]:=tO.re [1,0,2,3,4,5,6,7,8] dQ;refine dD (b68,A71,c72,d32,g33,m31) ?_ mG;exact zK
     refine lM 10 rfl nV fM ?_;intro b84 w85 yQ;refine dJ ?_;refine aY 0 ?_;refine j5 0 rfl eQ (hra _) ?_;rintro _ w90 ⟨m87,d88,g89,rfl,T92⟩;refine ⟨_,rfl,?_⟩;have LA:=yQ.ext T92 rfl;refine dJ ?_;refine aY 3 ?_;refine je (i:=3) rfl rfl (v:= .func (.func 162) #[] #[pV d88 0,pV g89 0]) (wn rfl) rfl rfl (jX 2 LA rfl rfl rfl rfl Tryz.underlying3 Tryz.underlying204 (Tryz.zeroValue203 _) hkr (if_pos rfl)) ?_;refine dJ ?_;refine aY 6 ?_;have HC:=ho d88 g89 oQ oQ _ (St.rd 7 LA rfl) hb (St.lI (xs:=[iV z]) 0 LA rfl rfl rfl) (St.lI (xs:=[.func (.func F) #[] #[]]) 1 LA rfl rfl rfl);rw [hM] at HC;refine mP 6 rfl eQ (HC) ?_;rintro _ w96 ⟨A93,c94,aDg,rfl,T98⟩;refine ⟨_,rfl,?_⟩;have Cc:=LA.ext T98 rfl;clear HC;refine aI 4 ?_;refine aY 11 ?_;refine sn 11 rfl 4 Cc kQ ?_;intro alP qU;refine aI 3 ?_;have rY:St w.heap.size w alP [_,_,_,_,_,_,_,_,_]:=qU.re [4,0,1,2,3,5,6,7,8] dQ;refine dD (b84,A93,c94,d88,g89,m87) ?_ mG;exact rY
    rintro ⟨agm,UY,UZ,aHs,aHt,aHu⟩ ZN nI
    try dsimp only at nI
    refine bg (l':=[(4,pV b7 0),(5,iV 0),(8,pV agm 0),(9,iV R.2)]) mG (aA (aA (av (vm ?_))));by_cases FW:R.2=0
    ·refine zN 7 ?_;have qQ:=nI.nil 46 6;refine zN 3 ?_;refine dY (news:=(R.1.evs).flatMap Ev.cells) (xs':=(R.1.evs).flatMap Ev.cells) 0 qQ (wn rfl) rfl rfl rfl rfl rfl rfl (St.bI 2 qQ rfl) Tryz.underlying121 qw rfl dQ (fB _) lQ oQ (rfl) ?_;intro ayS c117 alV aDh aDi tq;refine zQ ?_;refine Gz 1 tq kQ ?_;intro alH zo;refine zN 5 ?_;refine sa 6 zo kQ ?_;intro aqK Qp;refine zN 5 ?_;have xk:=Qp.aU [9,8,7,6,5,4,3,2,1];rw [kg oH uO uQ (by rw [hR];exact FW),hR];rw [Nat.zero_add] at xk⊢;exact ⟨ayS,c117,(dP (xk.own 0 rfl)).1,rfl,xk.bC 0 rfl⟩
    refine zN 6 ?_;refine vv jm ?_;refine sa 5 nI kQ ?_;intro Zf xU;refine zN 6 ?_;have zx:=xU.aU [8,7,6,5,4,3,2,1,0];rw [uH oH uO (by rw [hR];exact FW)];exact ⟨none,0,Nat.le_refl 0,rfl,aB zx⟩
   refine zN 8 ?_;refine vv jm ?_;refine sa 0 kS kQ ?_;intro alW yt;refine zN 6 ?_;have xV:=yt.aU [3,2,1,0];rw [Aw oH uO uQ];exact ⟨none,0,Nat.le_refl 0,rfl,aB xV⟩
  refine zN 6 ?_;refine vv jm ?_;refine zQ ?_;refine sa 0 iW kQ ?_;intro ZG zq;refine zN 6 ?_;have K8:=zq.aU [3,2,1,0];rw [zS oH uO];exact ⟨none,0,Nat.le_refl 0,rfl,aB K8⟩
 refine zN 6 ?_;refine vv jm ?_;refine zQ ?_;refine sa 0 rJ kQ ?_;intro ZO Er;refine zN 6 ?_;have Ef:=Er.aU [3,2,1,0];rw [zR oH];exact ⟨none,0,Nat.le_refl 0,rfl,aB Ef⟩
theorem aeO (ro ep fr tg rd:Int) (A:Option Addr) (c:Nat) (l:List Ev) (qu e pe:Int) (x:Ev) (hlc:l.length<=c) (w:World) (h:Rd w w.heap.size 6 A l.length (bn l)) (hb:l.length*48<=reachBytes):
  Calls tP 81 #[.agg #[iV ro,iV ep,iV fr,iV tg,iV rd,.slice A l.length c],.agg (rR 2 qu e pe x)] w (mo w (dV ⟨ro,ep,fr,tg,rd,l⟩ ⟨2,qu,e,pe,x⟩)):=
 Eu (z:=1) (F:=148) ro ep fr tg rd A c l qu e pe x dQ dQ ac4 aeK (λb1 b2 h1 h2=>Rc ro ep fr tg rd A c l 2 qu e pe x _ b1 b2 h1) hlc w h hb
theorem aeP (ro ep fr tg rd:Int) (A:Option Addr) (c:Nat) (l:List Ev) (qu e pe:Int) (x:Ev) (hlc:l.length<=c) (w:World) (h:Rd w w.heap.size 6 A l.length (bn l)) (hb:l.length*48<=reachBytes):
  Calls tP 81 #[.agg #[iV ro,iV ep,iV fr,iV tg,iV rd,.slice A l.length c],.agg (rR 5 qu e pe x)] w (mo w (dV ⟨ro,ep,fr,tg,rd,l⟩ ⟨5,qu,e,pe,x⟩)):=
 Eu (z:=4) (F:=148) ro ep fr tg rd A c l qu e pe x dQ dQ ac5 aeL (λb1 b2 h1 h2=>Rc ro ep fr tg rd A c l 5 qu e pe x _ b1 b2 h1) hlc w h hb
theorem aeQ (ro ep fr tg rd:Int) (A:Option Addr) (c:Nat) (l:List Ev) (qu e pe:Int) (x:Ev) (hlc:l.length<=c) (w:World) (h:Rd w w.heap.size 6 A l.length (bn l)) (hb:l.length*48<=reachBytes):
  Calls tP 81 #[.agg #[iV ro,iV ep,iV fr,iV tg,iV rd,.slice A l.length c],.agg (rR 6 qu e pe x)] w (mo w (dV ⟨ro,ep,fr,tg,rd,l⟩ ⟨6,qu,e,pe,x⟩)):=
 Eu (z:=4) (F:=151) ro ep fr tg rd A c l qu e pe x dQ dQ aoX aeM (λb1 b2 h1 h2=>aeF ro ep fr tg rd A c l 6 qu e pe x _ b1 b2 hlc) hlc w h hb
theorem aeR (ro ep fr tg rd:Int) (A:Option Addr) (c:Nat) (l:List Ev) (qu e pe:Int) (x:Ev) (hlc:l.length<=c) (w:World) (h:Rd w w.heap.size 6 A l.length (bn l)) (hb:l.length*48<=reachBytes):
  Calls tP 81 #[.agg #[iV ro,iV ep,iV fr,iV tg,iV rd,.slice A l.length c],.agg (rR 7 qu e pe x)] w (mo w (dV ⟨ro,ep,fr,tg,rd,l⟩ ⟨7,qu,e,pe,x⟩)):=
 Eu (z:=3) (F:=152) ro ep fr tg rd A c l qu e pe x dQ dQ aoY aeN (λb1 b2 h1 h2=>aeG ro ep fr tg rd A c l 7 qu e pe x _ b1 b2 h2) hlc w h hb
theorem aeS (ro ep fr tg rd:Int) (A:Option Addr) (c:Nat) (l:List Ev) (qu e pe:Int) (x:Ev) (hlc:l.length<=c) (w:World) (h:Rd w w.heap.size 6 A l.length (bn l)) (hb:l.length*48<=reachBytes):
    Calls Tryz.prog 81 #[.agg #[iV ro,iV ep,iV fr,iV tg,iV rd,.slice A l.length c],.agg #[iV 3,iV qu,iV e,iV pe,iV x.kind,iV x.producer,iV x.id,iV x.body,iV x.aL,iV x.hno]] w (mo w (dV ⟨ro,ep,fr,tg,rd,l⟩ ⟨3,qu,e,pe,x⟩)):=by
 have S:=(St.start w).bX h;have hb2:=hb;unfold reachBytes at hb2;refine gK 54 Tryz.func81 ?_;refine cw [0,1] ?_;refine zN 2 ?_;refine iT S ?_;intro b1 w2 S3;refine iT S3 ?_;intro b4 w5 S6;refine fT S6 fM ?_;intro b7 w8 S9;refine zN 7 ?_;refine cab eQ S9 (dS ro ep fr tg rd A c l _ (St.rd 3 S9 rfl) oQ) ?_;intro Zo rJ;refine zN 6 ?_;by_cases oH:aj ⟨ro,ep,fr,tg,rd,l⟩=0
 ·have hln:=gG (eH oH).2;dsimp only at hln;refine zN 10 ?_;refine cab eQ rJ (jI ⟨3,qu,e,pe,x⟩ _) ?_;intro LB iW;refine zN 6 ?_;by_cases uO:aJ ⟨3,qu,e,pe,x⟩=0
  ·have hrz:=zP uO;dsimp only at hrz;refine zN 11 ?_;by_cases h18:ro=2
   ·refine zN 16 ?_;refine vv jm ?_;refine sa 0 iW kQ ?_;intro BZ kD;refine zN 6 ?_;have nO:=kD.aU [3,2,1,0];rw [Aw oH uO uQ];exact ⟨none,0,Nat.le_refl 0,rfl,aB nO⟩
   refine zN 4 ?_;refine xS eQ (KD 3 dQ _) ?_;rintro _ Px ⟨rfl,Ni⟩;refine ⟨_,rfl,?_⟩;have kS:=iW.on Ni;refine zN 12 ?_;have iy:=kS.drew;refine aF 13 iy [] ?_;refine aI 4 ?_;refine fu (n:=8) (r:=0) (s:=10) kQ ?_ ?_
   ·refine j5 0 rfl eQ (Rh _) ?_;rintro _ XV ⟨m30,d31,g32,rfl,T35⟩;refine ⟨_,rfl,?_⟩;have mX:=iy.ext T35 rfl;refine dJ ?_;refine fu (n:=7) (r:=3) (s:=10) kQ ?_ ?_
    ·refine je (i:=3) rfl rfl (v:= .func (.func 162) #[] #[pV d31 0,pV g32 0]) (wn rfl) rfl rfl (jX 2 mX rfl rfl rfl rfl Tryz.underlying3 Tryz.underlying204 (Tryz.zeroValue203 _) dQ rfl) ?_;refine dJ ?_;refine fu (n:=6) (r:=6) (s:=10) kQ ?_ ?_
     ·by_cases hfit:ro=1/\ep=e
      ·refine mP 6 rfl eQ (IG (pF ro ep fr tg rd A c l 3 qu e pe x 1 d31 g32 _ (St.rd 6 mX rfl) hb (St.lI (xs:=[iV 1]) 0 mX rfl rfl rfl) (St.lI (xs:=[.func (.func 149) #[] #[]]) 1 mX rfl rfl rfl)) hfit) ?_;rintro _ w36 ⟨rfl,alX⟩;refine ⟨_,rfl,?_⟩;have o8:=mX.on alX;refine aI 4 ?_;refine aY 10 ?_;refine lM 10 rfl o8 fM ?_;intro X9 w43 yO;refine dJ ?_;refine aY 11 ?_;refine sn 11 rfl 0 yO kQ ?_;intro w45 sN;refine aI 3 ?_;refine zN 12 ?_;have pW:=sN.nil 46 6;refine zN 3 ?_;refine dY (news:=(l).flatMap Ev.cells) (xs':=(l).flatMap Ev.cells) 0 pW (wn rfl) rfl rfl rfl rfl rfl rfl (St.rd 8 pW rfl) Tryz.underlying121 qw rfl dQ (fB _) lQ oQ (rfl) ?_;intro A49 c50 Zm aHv aHw oh;refine zQ ?_;refine Gz 1 oh kQ ?_;intro w55 DJ;refine zN 5 ?_;refine sa 5 DJ kQ ?_;intro w57 um;refine zN 5 ?_;have Bl:=um.aU [8,7,6,5,4,3,2,1];rw [kg oH uO uQ (by rw [rO,if_neg (λh=>h hfit)];rfl),rO,if_neg (λh=>h hfit)];rw [Nat.zero_add] at Bl⊢;exact ⟨A49,c50,(dP (Bl.own 0 rfl)).1,rfl,Bl.bC 0 rfl⟩
      refine mP 6 rfl eQ (Ng (pF ro ep fr tg rd A c l 3 qu e pe x 1 d31 g32 _ (St.rd 6 mX rfl) hb (St.lI (xs:=[iV 1]) 0 mX rfl rfl rfl) (St.lI (xs:=[.func (.func 149) #[] #[]]) 1 mX rfl rfl rfl)) hfit) ?_;rintro _ Zu ⟨rfl,arI⟩;refine ⟨_,rfl,?_⟩;have EY:=mX.on arI;refine aI 4 ?_;refine aY 10 ?_;refine lM 10 rfl EY fM ?_;intro b66 w67 zL;refine dJ ?_;refine aY 11 ?_;refine sn 11 rfl 0 zL kQ ?_;intro w69 r9;refine aI 3 ?_;refine zN 11 ?_;refine vv jm ?_;refine sa 4 r9 kQ ?_;intro w72 tQ;refine zN 6 ?_;have Ji:=tQ.aU [7,6,5,4,3,2,1,0];rw [uH oH uO (by rw [rO,if_pos hfit];decide)];exact ⟨none,0,Nat.le_refl 0,rfl,aB Ji⟩
     refine lM 10 rfl mX fM ?_;intro b75 w76 xL;refine dJ ?_;refine aY 6 ?_;by_cases hfit:ro=1/\ep=e
     ·refine mP 6 rfl eQ (IG (pF ro ep fr tg rd A c l 3 qu e pe x 1 d31 g32 _ (St.rd 7 xL rfl) hb (St.lI (xs:=[iV 1]) 1 xL rfl rfl rfl) (St.lI (xs:=[.func (.func 149) #[] #[]]) 2 xL rfl rfl rfl)) hfit) ?_;rintro _ w78 ⟨rfl,ayT⟩;refine ⟨_,rfl,?_⟩;have zJ:=xL.on ayT;refine aI 4 ?_;refine aY 11 ?_;refine sn 11 rfl 0 zJ kQ ?_;intro w84 Jo;refine aI 3 ?_;refine zN 12 ?_;have FU:=Jo.nil 46 6;refine zN 3 ?_;refine dY (news:=(l).flatMap Ev.cells) (xs':=(l).flatMap Ev.cells) 0 FU (wn rfl) rfl rfl rfl rfl rfl rfl (St.rd 8 FU rfl) Tryz.underlying121 qw rfl dQ (fB _) lQ oQ (rfl) ?_;intro A88 c89 w90 aHx aHy LA;refine zQ ?_;refine Gz 1 LA kQ ?_;intro w94 F3;refine zN 5 ?_;refine sa 5 F3 kQ ?_;intro w96 Cc;refine zN 5 ?_;have Bo:=Cc.aU [8,7,6,5,4,3,2,1];rw [kg oH uO uQ (by rw [rO,if_neg (λh=>h hfit)];rfl),rO,if_neg (λh=>h hfit)];rw [Nat.zero_add] at Bo⊢;exact ⟨A88,c89,(dP (Bo.own 0 rfl)).1,rfl,Bo.bC 0 rfl⟩
     refine mP 6 rfl eQ (Ng (pF ro ep fr tg rd A c l 3 qu e pe x 1 d31 g32 _ (St.rd 7 xL rfl) hb (St.lI (xs:=[iV 1]) 1 xL rfl rfl rfl) (St.lI (xs:=[.func (.func 149) #[] #[]]) 2 xL rfl rfl rfl)) hfit) ?_;rintro _ w99 ⟨rfl,atZ⟩;refine ⟨_,rfl,?_⟩;have rW:=xL.on atZ;refine aI 4 ?_;refine aY 11 ?_;refine sn 11 rfl 0 rW kQ ?_;intro arK Cx;refine aI 3 ?_;refine zN 11 ?_;refine vv jm ?_;refine sa 4 Cx kQ ?_;intro arC IE;refine zN 6 ?_;have qP:=IE.aU [7,6,5,4,3,2,1,0];rw [uH oH uO (by rw [rO,if_pos hfit];decide)];exact ⟨none,0,Nat.le_refl 0,rfl,aB qP⟩
    refine lM 10 rfl mX fM ?_;intro aHz ZN nI;refine dJ ?_;refine aY 3 ?_;refine je (i:=3) rfl rfl (v:= .func (.func 162) #[] #[pV d31 0,pV g32 0]) (wn rfl) rfl rfl (jX 3 nI rfl rfl rfl rfl Tryz.underlying3 Tryz.underlying204 (Tryz.zeroValue203 _) dQ rfl) ?_;refine dJ ?_;refine aY 6 ?_;by_cases hfit:ro=1/\ep=e
    ·refine mP 6 rfl eQ (IG (pF ro ep fr tg rd A c l 3 qu e pe x 1 d31 g32 _ (St.rd 7 nI rfl) hb (St.lI (xs:=[iV 1]) 1 nI rfl rfl rfl) (St.lI (xs:=[.func (.func 149) #[] #[]]) 2 nI rfl rfl rfl)) hfit) ?_;rintro _ alJ ⟨rfl,at0⟩;refine ⟨_,rfl,?_⟩;have qQ:=nI.on at0;refine aI 4 ?_;refine aY 11 ?_;refine sn 11 rfl 0 qQ kQ ?_;intro aqS zu;refine aI 3 ?_;refine zN 12 ?_;have zo:=zu.nil 46 6;refine zN 3 ?_;refine dY (news:=(l).flatMap Ev.cells) (xs':=(l).flatMap Ev.cells) 0 zo (wn rfl) rfl rfl rfl rfl rfl rfl (St.rd 8 zo rfl) Tryz.underlying121 qw rfl dQ (fB _) lQ oQ (rfl) ?_;intro alL alM alK aDj aDk Qq;refine zQ ?_;refine Gz 1 Qq kQ ?_;intro alW yt;refine zN 5 ?_;refine sa 5 yt kQ ?_;intro axp Ql;refine zN 5 ?_;have zq:=Ql.aU [8,7,6,5,4,3,2,1];rw [kg oH uO uQ (by rw [rO,if_neg (λh=>h hfit)];rfl),rO,if_neg (λh=>h hfit)];rw [Nat.zero_add] at zq⊢;exact ⟨alL,alM,(dP (zq.own 0 rfl)).1,rfl,zq.bC 0 rfl⟩
    refine mP 6 rfl eQ (Ng (pF ro ep fr tg rd A c l 3 qu e pe x 1 d31 g32 _ (St.rd 7 nI rfl) hb (St.lI (xs:=[iV 1]) 1 nI rfl rfl rfl) (St.lI (xs:=[.func (.func 149) #[] #[]]) 2 nI rfl rfl rfl)) hfit) ?_;rintro _ aqb ⟨rfl,at1⟩;refine ⟨_,rfl,?_⟩;have Ee:=nI.on at1;refine aI 4 ?_;refine aY 11 ?_;refine sn 11 rfl 0 Ee kQ ?_;intro arL Io;refine aI 3 ?_;refine zN 11 ?_;refine vv jm ?_;refine sa 4 Io kQ ?_;intro af3 K5;refine zN 6 ?_;have Qj:=K5.aU [7,6,5,4,3,2,1,0];rw [uH oH uO (by rw [rO,if_pos hfit];decide)];exact ⟨none,0,Nat.le_refl 0,rfl,aB Qj⟩
   refine lM 10 rfl iy fM ?_;intro ax9 aya zn;refine dJ ?_;refine aY 0 ?_;refine j5 0 rfl eQ (Rh _) ?_;rintro _ arM ⟨aHA,alY,alZ,rfl,ayU⟩;refine ⟨_,rfl,?_⟩;have uV:=zn.ext ayU rfl;refine dJ ?_;refine aY 3 ?_;refine je (i:=3) rfl rfl (v:= .func (.func 162) #[] #[pV alY 0,pV alZ 0]) (wn rfl) rfl rfl (jX 2 uV rfl rfl rfl rfl Tryz.underlying3 Tryz.underlying204 (Tryz.zeroValue203 _) dQ rfl) ?_;refine dJ ?_;refine aY 6 ?_;by_cases hfit:ro=1/\ep=e
   ·refine mP 6 rfl eQ (IG (pF ro ep fr tg rd A c l 3 qu e pe x 1 alY alZ _ (St.rd 7 uV rfl) hb (St.lI (xs:=[iV 1]) 0 uV rfl rfl rfl) (St.lI (xs:=[.func (.func 149) #[] #[]]) 1 uV rfl rfl rfl)) hfit) ?_;rintro _ aHB ⟨rfl,at5⟩;refine ⟨_,rfl,?_⟩;have alS:=uV.on at5;refine aI 4 ?_;refine aY 11 ?_;refine sn 11 rfl 3 alS kQ ?_;intro aHC ayV;refine aI 3 ?_;refine zN 12 ?_;have xY:=ayV.nil 46 6;refine zN 3 ?_;refine dY (news:=(l).flatMap Ev.cells) (xs':=(l).flatMap Ev.cells) 0 xY (wn rfl) rfl rfl rfl rfl rfl rfl (St.rd 8 xY rfl) Tryz.underlying121 qw rfl dQ (fB _) lQ oQ (rfl) ?_;intro ayW c167 alI aDl aDm K7;refine zQ ?_;refine Gz 4 K7 kQ ?_;intro al0 U1;refine zN 5 ?_;refine sa 5 U1 kQ ?_;intro ayX UO;refine zN 5 ?_;have Zi:=UO.aU [8,7,6,5,4,3,2,1];rw [kg oH uO uQ (by rw [rO,if_neg (λh=>h hfit)];rfl),rO,if_neg (λh=>h hfit)];rw [Nat.zero_add] at Zi⊢;exact ⟨ayW,c167,(dP (Zi.own 0 rfl)).1,rfl,Zi.bC 0 rfl⟩
   refine mP 6 rfl eQ (Ng (pF ro ep fr tg rd A c l 3 qu e pe x 1 alY alZ _ (St.rd 7 uV rfl) hb (St.lI (xs:=[iV 1]) 0 uV rfl rfl rfl) (St.lI (xs:=[.func (.func 149) #[] #[]]) 1 uV rfl rfl rfl)) hfit) ?_;rintro _ axt ⟨rfl,at6⟩;refine ⟨_,rfl,?_⟩;have UK:=uV.on at6;refine aI 4 ?_;refine aY 11 ?_;refine sn 11 rfl 3 UK kQ ?_;intro aHD ayY;refine aI 3 ?_;refine zN 11 ?_;refine vv jm ?_;refine sa 4 ayY kQ ?_;intro aHE ayZ;refine zN 6 ?_;have al1:=ayZ.aU [7,6,5,4,3,2,1,0];rw [uH oH uO (by rw [rO,if_pos hfit];decide)];exact ⟨none,0,Nat.le_refl 0,rfl,aB al1⟩
  refine zN 6 ?_;refine vv jm ?_;refine zQ ?_;refine sa 0 iW kQ ?_;intro aHF ay0;refine zN 6 ?_;have als:=ay0.aU [3,2,1,0];rw [zS oH uO];exact ⟨none,0,Nat.le_refl 0,rfl,aB als⟩
 refine zN 6 ?_;refine vv jm ?_;refine zQ ?_;refine sa 0 rJ kQ ?_;intro aHG ay1;refine zN 6 ?_;have Qm:=ay1.aU [3,2,1,0];rw [zR oH];exact ⟨none,0,Nat.le_refl 0,rfl,aB Qm⟩
end Go.Proofs.YtcomidffhiilcaaGreatDoor
