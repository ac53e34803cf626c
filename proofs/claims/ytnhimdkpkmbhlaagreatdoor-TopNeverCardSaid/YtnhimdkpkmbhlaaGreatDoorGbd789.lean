import Derived.Test.YtnhimdkpkmbhlaaGreatDoorG43805
import Derived.Test.YtnhimdkpkmbhlaaGreatDoorG8681f
set_option maxRecDepth 100000
set_option maxHeartbeats 8000000
set_option linter.unusedSimpArgs false
set_option linter.unusedVariables false
namespace Go.Proofs.YtnhimdkpkmbhlaaGreatDoor
open ChangeShapes WideShapes RowKit
theorem Sq (ep nx gv:Int) (A1 A2:Option Addr) (c1 c2:Nat) (rs:List fD) (ls:List Ls) (W:kK) (w:World) (h1:Rd w w.heap.size 2 A1 rs.length (rs.flatMap fD.cells)) (h2:Rd w w.heap.size 4 A2 ls.length (ls.flatMap Ls.cells)) (hb1:rs.length*16<=reachBytes) (hb2:ls.length*32<=reachBytes):
    Calls Tryz.prog 24 #[.agg (bO ep nx gv (.slice A1 rs.length c1) (.slice A2 ls.length c2) W)] w (XV w (gy ep nx gv rs ls W)):=by
 unfold reachBytes at hb1 hb2;have S:=((St.start w).bU h2).bU h1;refine gq 140 Tryz.func24 ?_;refine cw [0] ?_;refine zN 2 ?_;refine iP S ?_;intro b1 w2 S3;refine zN 7 ?_;refine vv (aj rfl rfl (av Tryz.underlying3 rfl (St.cl 0 S3 rfl yL))) ?_;by_cases h4:ep<0
 ·refine zN 47 ?_;exact ⟨ig (C9 (by omega)).symm,S3.low⟩
 refine zN 3 ?_;refine vg (aj rfl rfl (av Tryz.underlying3 rfl (St.cl 0 S3 rfl yL))) ?_;by_cases h5:1048576<ep
 ·refine zN 43 ?_;exact ⟨ig (C9 (by omega)).symm,S3.low⟩
 refine zN 4 ?_;refine vg (aj rfl rfl (av Tryz.underlying3 rfl (St.cl 0 S3 rfl Bw))) ?_;by_cases h6:nx<0
 ·refine zN 38 ?_;exact ⟨ig (C9 (by omega)).symm,S3.low⟩
 refine zN 4 ?_;refine vg (aj rfl rfl (av Tryz.underlying3 rfl (St.cl 0 S3 rfl Bw))) ?_;by_cases h7:1073741824<nx
 ·refine zN 33 ?_;exact ⟨ig (C9 (by omega)).symm,S3.low⟩
 refine zN 4 ?_;refine vg (aj rfl rfl (av Tryz.underlying3 rfl (St.cl 0 S3 rfl Bz))) ?_;by_cases h8:gv<0
 ·refine zN 28 ?_;exact ⟨ig (C9 (by omega)).symm,S3.low⟩
 refine zN 4 ?_;refine vg (aj rfl rfl (av Tryz.underlying3 rfl (St.cl 0 S3 rfl Bz))) ?_;by_cases h9:1073741824<gv
 ·refine zN 23 ?_;exact ⟨ig (C9 (by omega)).symm,S3.low⟩
 refine zN 4 ?_;refine vg (aj rfl rfl (av Tryz.underlying39 rfl (St.cl 0 S3 rfl qm))) ?_;refine zN 2 ?_;refine vg (aj rfl rfl (av Tryz.underlying40 rfl (St.cl 0 S3 rfl ko))) ?_;refine zQ ?_;refine vg (v:=iV ((rs.length+ls.length:Nat):Int)) gu ?_;by_cases h10:500< ((rs.length+ls.length:Nat):Int)
 ·refine zN 13 ?_;exact ⟨ig (C9 (by omega)).symm,S3.low⟩
 refine zN 11 ?_;refine vv (aj rfl rfl (aA (cs:=(W.cells)) Tryz.underlying44 rfl amF rfl (St.rg 0 S3 rfl (akW)))) ?_;refine zN 4 ?_;refine cZ (X:=Nat) (λxv=>[(1,pV b1 0),(2,iV 0),(51,.agg ((W.cells).toArray)),(52,iV ((xv:Nat):Int))]) (λxv wr=>(xv<=4)/\(∀ j,j<xv->dP (W.at j)=0)/\St w.heap.size w wr [.blk b1 (bO ep nx gv (.slice A1 rs.length c1) (.slice A2 ls.length c2) W) 46,.rd 2 A1 rs.length ((rs).flatMap fD.cells),.rd 4 A2 ls.length ((ls).flatMap Ls.cells)]) (λxv=>4-xv) (0) ?_ ?_ ?_
 ·exact ⟨Nat.zero_le _,λj hj=>absurd hj (Nat.not_lt_zero _),S3⟩
 ·exact ⟨rfl,rfl,rfl,rfl,trivial⟩
 rintro k Cc ⟨an9,Nb,kE⟩
 try dsimp only at an9 Nb kE
 refine bq (l':=[(1,pV b1 0),(2,iV 0),(51,.agg ((W.cells).toArray)),(52,iV ((k:Nat):Int))]) ⟨rfl,rfl,rfl,rfl,trivial⟩ (aH (aC ?_));by_cases h15:((k:Nat):Int)<4
 ·refine zN 11 ?_;refine vv (v:= .agg (((W.at k).cells).toArray)) (aj3 rfl rfl rfl (Y8 W k (by omega) _)) ?_;refine fJ kE an2 ?_;intro b16 Ms jl;refine stA 0 jl Ga ?_ (h1:=JV _);intro Hw nO;refine zN 5 ?_;refine cab aAj nO (F4 (W.at k) _) ?_;intro Gl iY;refine zN 6 ?_;by_cases Sr:dP (W.at k)=0
  ·refine zN 8 ?_;refine vv (v:=iV ((k+1:Nat):Int)) gu ?_;refine zN 2 ?_;have jB:=iY.aU [0];refine aM (k+1) ?_ ⟨rfl,rfl,rfl,rfl,trivial⟩ (by first | omega | (dsimp only;omega));exact ⟨(by omega),(λj hj=>(Nat.lt_succ_iff_lt_or_eq.1 hj).elim (λh=>Nb j h) (λh=>by rw [h];exact Sr)),jB⟩
  refine zN 17 ?_;refine ⟨ig ?_,iY.low⟩;rw [aq2 (j:=k) (by omega) Sr];exact (ak7 _).resolve_left Sr
 refine zN 12 ?_;refine Y6 (k:=3) kE (wn rfl) rfl rfl rfl ?_;intro b26 P7 uy;have aA0:Ag W:=λj hj=>Nb j (by omega);refine zN 12 ?_;refine vv (aj rfl rfl (av Tryz.underlying39 rfl (St.cl 1 uy rfl qm))) ?_;refine zN 5 ?_;refine cZ (X:=Nat×Int) (λxv=>[(1,pV b1 0),(2,iV 0),(6,.map (some b26)),(7,iV xv.2),(63,.slice A1 rs.length c1),(64,iV ((rs.length:Nat):Int)),(65,iV ((xv.1:Nat):Int))]) (λxv wr=>(xv.1<=rs.length)/\(kr nx (-1) rs=kr nx xv.2 (rs.drop xv.1))/\St w.heap.size w wr [.loc b26 (M9 Tryz.prog 3 ((rs.take xv.1).map (·.no))),.blk b1 (bO ep nx gv (.slice A1 rs.length c1) (.slice A2 ls.length c2) W) 46,.rd 2 A1 rs.length ((rs).flatMap fD.cells),.rd 4 A2 ls.length ((ls).flatMap Ls.cells)]) (λxv=>rs.length-xv.1) (0,-1) ?_ ?_ ?_
 ·exact ⟨Nat.zero_le _,rfl,uy⟩
 ·exact ⟨rfl,rfl,rfl,rfl,rfl,rfl,rfl,trivial⟩
 rintro ⟨k,p⟩ Xe ⟨Fh,yw,ni⟩
 try dsimp only at Fh yw ni
 refine bq (l':=[(1,pV b1 0),(2,iV 0),(6,.map (some b26)),(7,iV p),(63,.slice A1 rs.length c1),(64,iV ((rs.length:Nat):Int)),(65,iV ((k:Nat):Int))]) ⟨rfl,rfl,rfl,rfl,rfl,rfl,rfl,trivial⟩ (aH (aC ?_));by_cases h34:((k:Nat):Int)< ((rs.length:Nat):Int)
 ·refine zN 11 ?_;obtain ⟨b35,o36,rfl⟩:=Rd.addr (St.rd 2 ni rfl) (by omega);obtain ⟨x37,hx38⟩:=zL k (St.rd 2 ni rfl) (by omega);refine vv (jI k) ?_;refine vv (aj rfl rfl (aA (cs:=fD.cells x37) Tryz.underlying62 rfl Gb rfl (Rd.uW (St.rd 2 ni rfl) (λ_ _ h=>aX (enc:=fD.cells) (sz:=2) (λ_=>rfl) hx38 h)))) ?_;refine fJ ni aAQ ?_;intro b39 w40 Db;refine sa 0 Db Gb ?_;intro Uw qB;refine zN 7 ?_;refine dz asJ (DJ ep nx gv _ _ W x37 _) ?_;rintro _ Sn ⟨rfl,aA1⟩;refine ⟨_,rfl,?_⟩;have ou:=qB.on aA1
  cases XY:(qI nx x37)
  ·refine zN 23 ?_;exact ⟨ig (Ah λh=>by rw [yw,Le hx38,XY] at h;exact absurd h.2.1 (by simp)).symm,ou.low⟩
  have aG7:=xS XY;refine zN 5 ?_;by_cases h49:p<x37.no
  ·refine zN 18 ?_;refine vv (v:= .agg #[]) yz ?_;refine PZ (z:=x37.no) 1 ou (wn rfl) rfl rfl rfl rfl rfl rfl Tryz.underlying3 Tryz.underlying124 (by omega) (by simp [maxLen];omega) ?_;intro Xf uq;rw [Lf (f:=λm:fD=>m.no) hx38] at uq;refine zN 4 ?_;refine vv (v:=iV ((k+1:Nat):Int)) gu ?_;refine zN 2 ?_;have vS:=uq.aU [0];refine aM (k+1,x37.no) ?_ ⟨rfl,rfl,rfl,rfl,rfl,rfl,rfl,trivial⟩ (by first | omega | (dsimp only;omega));exact ⟨(by dsimp only;omega),(by dsimp only;rw [yw,Le hx38,XY,decide_eq_true h49];rfl),vS⟩
  refine zN 18 ?_;exact ⟨ig (Ah λh=>by rw [yw,Le hx38,decide_eq_false h49] at h;exact absurd h.2.1 (by simp)).symm,ou.low⟩
 refine zN 19 ?_;refine vv (aj rfl rfl (av Tryz.underlying40 rfl (St.cl 1 ni rfl ko))) ?_;refine zN 5 ?_;have aA2:kr nx (-1) rs=true:=by rw [yw,List.drop_of_length_le (by omega)];rfl
 have u6:=ni;rw [List.take_of_length_le (show rs.length<=k by omega)] at u6;rw [<-List.append_nil (rs.map (·.no))] at u6;refine cZ (X:=Nat×Int) (λxv=>[(1,pV b1 0),(2,iV 0),(6,.map (some b26)),(7,iV xv.2),(87,.slice A2 ls.length c2),(88,iV ((ls.length:Nat):Int)),(89,iV ((xv.1:Nat):Int))]) (λxv wr=>(xv.1<=ls.length)/\(kR ep nx gv (-1) ls=kR ep nx gv xv.2 (ls.drop xv.1))/\St w.heap.size w wr [.loc b26 (M9 Tryz.prog 3 (rs.map (·.no)++(ls.take xv.1).map (·.msg.no))),.blk b1 (bO ep nx gv (.slice A1 rs.length c1) (.slice A2 ls.length c2) W) 46,.rd 2 A1 rs.length ((rs).flatMap fD.cells),.rd 4 A2 ls.length ((ls).flatMap Ls.cells)]) (λxv=>ls.length-xv.1) (0,-1) ?_ ?_ ?_
 ·exact ⟨Nat.zero_le _,rfl,u6⟩
 ·exact ⟨rfl,rfl,rfl,rfl,rfl,rfl,rfl,trivial⟩
 rintro ⟨k,p⟩ w56 ⟨aA3,TK,rP⟩
 try dsimp only at aA3 TK rP
 refine bq (l':=[(1,pV b1 0),(2,iV 0),(6,.map (some b26)),(7,iV p),(87,.slice A2 ls.length c2),(88,iV ((ls.length:Nat):Int)),(89,iV ((k:Nat):Int))]) ⟨rfl,rfl,rfl,rfl,rfl,rfl,rfl,trivial⟩ (aH (aC ?_));by_cases h60:((k:Nat):Int)< ((ls.length:Nat):Int)
 ·refine zN 11 ?_;obtain ⟨b61,o62,rfl⟩:=Rd.addr (St.rd 3 rP rfl) (by omega);obtain ⟨x63,TL⟩:=zL k (St.rd 3 rP rfl) (by omega);refine vv (jI k) ?_;refine vv (aj rfl rfl (aA (cs:=Ls.cells x63) Tryz.underlying64 rfl JA rfl (Rd.uW (St.rd 3 rP rfl) (λ_ _ h=>aX (enc:=Ls.cells) (sz:=4) (λ_=>rfl) TL h)))) ?_;refine fJ rP asS ?_;intro b65 Xd uZ;refine sa 0 uZ JA ?_;intro w68 u7;refine zN 7 ?_;refine vv (aj rfl rfl (aA (cs:=[iV x63.msg.no,iV x63.msg.body]) Tryz.underlying62 rfl Gb rfl (St.rg 0 u7 rfl (kW (x:=2) (m:=2) rfl)))) ?_;refine dz asJ (DJ ep nx gv _ _ W x63.msg _) ?_;rintro _ w70 ⟨rfl,aA4⟩;refine ⟨_,rfl,?_⟩;have uw:=u7.on aA4
  cases aoa:(qI nx x63.msg)
  ·refine zN 40 ?_;exact ⟨ig (Ah λh=>by rw [TK,Et TL,JW,aoa] at h;exact absurd h.2.2.1 (by simp)).symm,uw.low⟩
  have aG8:=xS aoa;refine zN 6 ?_;refine vg (aj rfl rfl (av Tryz.underlying3 rfl (St.cl 2 uw rfl yL))) ?_;by_cases h75:x63.dK=ep
  ·refine zN 7 ?_;by_cases h76:p<x63.hno
   ·refine zN 7 ?_;refine vg (aj rfl rfl (av Tryz.underlying3 rfl (St.cl 2 uw rfl Bz))) ?_;by_cases h77:x63.hno<gv
    ·refine zN 20 ?_;refine vv (v:= .agg #[]) yz ?_;refine PZ (z:=x63.msg.no) 1 uw (wn rfl) rfl rfl rfl rfl rfl rfl Tryz.underlying3 Tryz.underlying124 (by omega) (by simp [maxLen];omega) ?_;intro w78 DN;rw [List.append_assoc,Lf (f:=λm:Ls=>m.msg.no) TL] at DN;refine zN 4 ?_;refine vv (v:=iV ((k+1:Nat):Int)) gu ?_;refine zN 2 ?_;have vT:=DN.aU [0];refine aM (k+1,x63.hno) ?_ ⟨rfl,rfl,rfl,rfl,rfl,rfl,rfl,trivial⟩ (by first | omega | (dsimp only;omega));exact ⟨(by dsimp only;omega),(by dsimp only;rw [TK,Et TL,JW,aoa,decide_eq_true ⟨by omega,by omega,by omega⟩];rfl),vT⟩
    refine zN 18 ?_;exact ⟨ig (Ah λh=>by rw [TK,Et TL,JW,decide_eq_false (λh1=>h77 (h1.2.2)),Bool.and_false] at h;exact absurd h.2.2.1 (by simp)).symm,uw.low⟩
   refine zN 26 ?_;exact ⟨ig (Ah λh=>by rw [TK,Et TL,JW,decide_eq_false (λh1=>h76 (h1.2.1)),Bool.and_false] at h;exact absurd h.2.2.1 (by simp)).symm,uw.low⟩
  refine zN 33 ?_;exact ⟨ig (Ah λh=>by rw [TK,Et TL,JW,decide_eq_false (λh1=>h75 (h1.1)),Bool.and_false] at h;exact absurd h.2.2.1 (by simp)).symm,uw.low⟩
 refine zN 14 ?_;have aA5:kR ep nx gv (-1) ls=true:=by rw [TK,List.drop_of_length_le (by omega)];rfl
 have Ce:=rP;rw [List.take_of_length_le (show ls.length<=k by omega)] at Ce;change St _ _ _ [.loc b26 (M9 Tryz.prog 3 (jE rs ls)),.blk b1 (bO ep nx gv (.slice A1 rs.length c1) (.slice A2 ls.length c2) W) 46,.rd 2 A1 rs.length ((rs).flatMap fD.cells),.rd 4 A2 ls.length ((ls).flatMap Ls.cells)] at Ce;obtain ⟨m84,aA6,aA7,aob⟩:=agB 0 Ce rfl Tryz.underlying124 3;have hnl:(jE rs ls).length=rs.length+ls.length:=by simp [jE]
 rw [hnl] at aA7 aob;refine vv (v:=iV ((m84:Nat):Int)) (rE (vs:=[.map (some b26)]) rfl ⟨rfl,trivial⟩ aA6) ?_;refine zQ ?_;refine vv (aj rfl rfl (av Tryz.underlying39 rfl (St.cl 1 Ce rfl qm))) ?_;refine zN 2 ?_;refine vv (aj rfl rfl (av Tryz.underlying40 rfl (St.cl 1 Ce rfl ko))) ?_;refine zQ ?_;refine vv (v:=iV ((rs.length+ls.length:Nat):Int)) gu ?_;by_cases h88:((m84:Nat):Int)< ((rs.length+ls.length:Nat):Int)
 ·refine zN 12 ?_;exact ⟨ig (Ah λh=>aob.1 (by omega) h.2.2.2).symm,Ce.low⟩
 refine zN 13 ?_;exact ⟨ig (awS (by unfold TG;omega) aA0 aA2 aA5 (Classical.not_not.1 λh=>h88 (by have:=aob.2 h;omega))).symm,Ce.low⟩
end Go.Proofs.YtnhimdkpkmbhlaaGreatDoor
