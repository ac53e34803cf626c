/- Parts of proofs: lemmas on memory, on single functions and on the plain models; no condition of their own. -/
import Derived.Test.YtbffmhpkenoogaaGreatDoorG1fca51b771ae
import Derived.Test.YtbffmhpkenoogaaGreatDoorG9d4f3f9ed30d
import Derived.Test.YtbffmhpkenoogaaGreatDoorGcdba1b0bf05e
set_option linter.unusedVariables false
set_option linter.unusedSimpArgs false
set_option linter.unnecessarySimpa false
set_option maxRecDepth 100000
set_option maxHeartbeats 8000000

namespace Go.Proofs.YtbffmhpkenoogaaGreatDoor
open Go.ChangeShapes Go.WideShapes Go.RowKit
theorem Yo {calls:Nat} {nv fv sv tv x:Value} {d:Dir} {sh:Nat→Nat→Int×Int}:bX (bL nv d fv sh sv tv calls) 0 [x]=bL x d fv sh sv tv calls:=EG (Nat.le_of_ble_eq_true rfl) rfl
theorem St.flip {B:Nat} {w0 w:World} {gs fs:List Fact} (S:St B w0 w (gs++fs)):St B w0 w (fs++gs):=S.perm List.perm_append_comm
def ag4 (a b c d e:Nat):Nat→Nat
 | 0=>a
 | 1=>b
 | 2=>c
 | 3=>d
 | _=>e
theorem KF {L:List Fact}: ∀ y∈qW,zi L y:=fun y hy=>by
 have:y=MB:=by simpa [qW] using hy
 subst this;exact ⟨Ro.none_,Nat.zero_le _⟩
theorem Qf {B:Nat} {w0 w:World} {fs:List Fact} (S:St B w0 w fs) (hu:Uk B w0):
    Calls Tryz.prog 46 #[] w (fun e w'=> ∃ K:CK,e= .returned (pV K.wb 0)∧Wd K B w0 w' fs Om []):=by
 refine fE 27 Tryz.func46 ?_;refine bq (l':=[]) trivial (aW (aO (va ?_)));iterate 4 refine zQ ?_
 refine dO asC (SG _ (Uk.nw hu S)) ?_;rintro _ w1 ⟨rfl,hb3⟩;refine ⟨_,rfl,?_⟩;have S2:=S.on hb3;refine vv (v:= .agg (bL (.slice none 0 0) (⟨nowhere,nowhere,nowhere,nowhere⟩:Dir) (.slice none 0 0) (fun _ _=>(0,0)) (.slice none 0 0) (.slice none 0 0) 0)) gZ ?_;refine gD S2 ?_;intro b4 w5 S6;iterate 10 refine zQ ?_
 refine JA (kZ (aW (aO (vv zS ?_))));iterate 17 refine zQ ?_
 refine vv (v:= .agg (aU 0 true (.slice none 0 0) 0 (.slice none 0 0) (fun _=>(⟨0,0⟩:Pl)) (fun _=>false) (.slice none 0 0) (.nilFunc) 0)) gZ ?_;refine gD S6 ?_;intro b7 w8 S9;iterate 6 refine zQ ?_
 refine dO MS (lY S9 hu) ?_;rintro _ Ee ⟨rfl,axC,lq⟩;refine ⟨_,rfl,?_⟩;iterate 2 refine zQ ?_
 have qK:=lq.nil 122 1;iterate 5 refine zQ ?_
 refine vv (aj rfl rfl (aA Tryz.underlying114 rfl (St.cl 3 qK rfl xP))) ?_;refine zQ ?_;refine FL qK ?_;intro b14 FR jR;refine dB (news:=[pV b7 0]) (xs':=[fI b7]) 1 jR (wn rfl) rfl rfl rfl rfl rfl rfl (St.iG (xs:=[pV b7 0]) 0 jR rfl rfl rfl) Tryz.underlying114 Bd rfl (by decide) (bZ rfl) (by simp only [maxLen];omega) (by omega) rfl ?_;intro IW c18 zJ hc21 aD0 kr;iterate 2 refine zQ ?_
 refine iU 4 kr Cv ?_ (hs:=by exact Yo);intro JZ jB;iterate 4 refine zQ ?_
 refine vv (v:=iV 1) jv ?_;iterate 2 refine zQ ?_
 refine nZ (kZ (aW (aO (vv zS ?_))));iterate 17 refine zQ ?_
 refine vv (v:= .agg (aU 1 true (.slice none 0 0) 0 (.slice none 0 0) (fun _=>(⟨0,0⟩:Pl)) (fun _=>false) (.slice none 0 0) (.nilFunc) 0)) gZ ?_;refine gD jB ?_;intro NM IQ qJ;iterate 6 refine zQ ?_
 refine dO MS (lY qJ hu) ?_;rintro _ V7 ⟨rfl,axD,tF⟩;refine ⟨_,rfl,?_⟩;iterate 7 refine zQ ?_
 refine vv (aj rfl rfl (aA Tryz.underlying114 rfl (St.cl 6 tF rfl xP))) ?_;refine zQ ?_;refine FL tF ?_;intro b31 w32 qY;refine dB (news:=[pV NM 0]) (xs':=[fI b7,fI NM]) 4 qY (wn rfl) rfl rfl rfl rfl rfl rfl (St.iG (xs:=[pV NM 0]) 0 qY rfl rfl rfl) Tryz.underlying114 Bd rfl (by decide) (bZ rfl) (by simp only [maxLen];omega) (by omega) rfl ?_;intro A34 c35 w36 hc38 avq qN;iterate 2 refine zQ ?_
 refine iU 7 qN Cv ?_ (hs:=by exact Yo);intro UH xU;iterate 4 refine zQ ?_
 refine vv (v:=iV 2) jv ?_;iterate 2 refine zQ ?_
 refine nZ (kZ (aW (aO (vv zS ?_))));iterate 17 refine zQ ?_
 refine vv (v:= .agg (aU 2 true (.slice none 0 0) 0 (.slice none 0 0) (fun _=>(⟨0,0⟩:Pl)) (fun _=>false) (.slice none 0 0) (.nilFunc) 0)) gZ ?_;refine gD xU ?_;intro UU w43 Ar;iterate 6 refine zQ ?_
 refine dO MS (lY Ar hu) ?_;rintro _ UJ ⟨rfl,axE,uy⟩;refine ⟨_,rfl,?_⟩;iterate 7 refine zQ ?_
 refine vv (aj rfl rfl (aA Tryz.underlying114 rfl (St.cl 9 uy rfl xP))) ?_;refine zQ ?_;refine FL uy ?_;intro UR Qq rO;refine dB (news:=[pV UU 0]) (xs':=[fI b7,fI NM,fI UU]) 7 rO (wn rfl) rfl rfl rfl rfl rfl rfl (St.iG (xs:=[pV UU 0]) 0 rO rfl rfl rfl) Tryz.underlying114 Bd rfl (by decide) (bZ rfl) (by simp only [maxLen];omega) (by omega) rfl ?_;intro A51 c52 Wu aD1 aD2 jw;iterate 2 refine zQ ?_
 refine iU 10 jw Cv ?_ (hs:=by exact Yo);intro w57 yU;iterate 4 refine zQ ?_
 refine vv (v:=iV 3) jv ?_;iterate 2 refine zQ ?_
 refine nZ (kZ (aW (aO (vv zS ?_))));iterate 17 refine zQ ?_
 refine vv (v:= .agg (aU 3 true (.slice none 0 0) 0 (.slice none 0 0) (fun _=>(⟨0,0⟩:Pl)) (fun _=>false) (.slice none 0 0) (.nilFunc) 0)) gZ ?_;refine gD yU ?_;intro QE Qx Au;iterate 6 refine zQ ?_
 refine dO MS (lY Au hu) ?_;rintro _ w63 ⟨rfl,axF,S64⟩;refine ⟨_,rfl,?_⟩;iterate 7 refine zQ ?_
 refine vv (aj rfl rfl (aA Tryz.underlying114 rfl (St.cl 12 S64 rfl xP))) ?_;refine zQ ?_;refine FL S64 ?_;intro b65 NP oN;refine dB (news:=[pV QE 0]) (xs':=[fI b7,fI NM,fI UU,fI QE]) 10 oN (wn rfl) rfl rfl rfl rfl rfl rfl (St.iG (xs:=[pV QE 0]) 0 oN rfl rfl rfl) Tryz.underlying114 Bd rfl (by decide) (bZ rfl) (by simp only [maxLen];omega) (by omega) rfl ?_;intro A68 c69 UA aD3 aD4 qh;iterate 2 refine zQ ?_
 refine iU 13 qh Cv ?_ (hs:=by exact Yo);intro UC vH;iterate 4 refine zQ ?_
 refine vv (v:=iV 4) jv ?_;iterate 2 refine zQ ?_
 refine nZ (kZ (aW (aO (vv zS ?_))));iterate 17 refine zQ ?_
 refine vv (v:= .agg (aU 4 true (.slice none 0 0) 0 (.slice none 0 0) (fun _=>(⟨0,0⟩:Pl)) (fun _=>false) (.slice none 0 0) (.nilFunc) 0)) gZ ?_;refine gD vH ?_;intro b76 UF Bg;iterate 6 refine zQ ?_
 refine dO MS (lY Bg hu) ?_;rintro _ Mc ⟨rfl,axG,pF⟩;refine ⟨_,rfl,?_⟩;iterate 7 refine zQ ?_
 refine vv (aj rfl rfl (aA Tryz.underlying114 rfl (St.cl 15 pF rfl xP))) ?_;refine zQ ?_;refine FL pF ?_;intro b82 w83 CJ;refine dB (news:=[pV b76 0]) (xs':=[fI b7,fI NM,fI UU,fI QE,fI b76]) 13 CJ (wn rfl) rfl rfl rfl rfl rfl rfl (St.iG (xs:=[pV b76 0]) 0 CJ rfl rfl rfl) Tryz.underlying114 Bd rfl (by decide) (bZ rfl) (by simp only [maxLen];omega) (by omega) rfl ?_;intro A85 c86 w87 aD5 aD6 IV;iterate 2 refine zQ ?_
 refine iU 16 IV Cv ?_ (hs:=by exact Yo);intro Zz vI;iterate 4 refine zQ ?_
 refine vv (v:=iV 5) jv ?_;iterate 2 refine zQ ?_
 refine nZ (kZ (aW (aO (vv agk ?_))));iterate 17 refine zQ ?_
 have yR:St _ _ _ (_::_::_::_::_::_::_::_::_::_::_::_::_::_::_::_::_::fs):=vI.aZ 13 rfl;have CF:=yR.aR [12,9,6,3,0];have Ef:=CF.nil 81 7;have Bn:=Ef.nil 85 14;have uP:=Bn.nil 169 23;have Aw:=uP.zH 169 23;have VR:=Aw.zH 169 23;have oJ:=VR.zH 169 23;have sG:=oJ.zH 169 23;have pG:=sG.zH 169 23;have l9:=pG.dM [16];have qG:=l9.dM [5];have lD:=qG.dM [10];have xL:=lD.dM [10];have wo:=xL.dM [7];have rC:=wo.dM [12];have BN:=rC.dM [12];have pq:=BN.dM [9];have zW:=pq.dM [14];have sH:=zW.dM [14];have jg:=sH.dM [11];have yX:=jg.dM [16];have ko:=yX.dM [16];have uG:=ko.dM [13];have tT:=uG.dM [18];have uI:=tT.dM [18];have kX:=uI.dM [18];have oM:=kX.dM [18];have tV:=oM.dM [18];have zZ:=tV.dM [19];refine ⟨⟨b4,ag4 b7 NM UU QE b76⟩,rfl,⟨fun j=>⟨ag4 axC axD axE axF axG j,none,0,qW,none,0,[],.nilFunc⟩,none,0,[],none,0,none,0,A85,c86,[.bG 1 A85 5 [fI b7,fI NM,fI UU,fI QE,fI b76]]⟩,?_,St.flip (gs:=[_,_,_,_,_,_,_,_,_,_,_,_,_,_,_,_,_,_,_,_]) (fs:=fs) zZ⟩;exact ⟨rfl,fun x hx=>(by cases hx),fun n hn=>⟨rfl,KF,Ro.none_,rfl,fun y hy=>(by cases hy),rfl⟩,Ro.bG (List.mem_singleton.2 rfl),fun x hx=>(by cases hx)⟩
section
variable {m mm:Cl} {n q k:Nat} {a:Ac} {PW:Pl×Int} {T S D K:Nat} {x:jI} {fl:List jI}
theorem afH (h:bI m.off q=PW): ∃ nn,nn<5∧(PW.2=0→PW.1.node=((nn:Nat):Int)):=by
 subst h;by_cases c:(bI m.off q).2=0
 ·obtain ⟨h1,h2,_⟩:=Ht (fun h=>h c);exact ⟨_,h1,fun _=>by omega⟩
 exact ⟨0,by omega,fun h=>absurd h c⟩
theorem abP (h:fJ m T S D K):fJ { m with fly:=[] } (T+0) S (D+0) K:=by
 refine ⟨h.lC,fun l hl=>(by simp at hl),h.mY,?_,h.aH,h.aM,h.turn,h.calls⟩;have:=h.room;unfold Cl.tot at this⊢;dsimp only [List.length_nil];omega
theorem abQ (h:fl[k]? =some x):(fl.drop k).foldl Cl.come mm=(fl.drop (k+1)).foldl Cl.come (mm.come x):=by rw [drop_cons h,List.foldl_cons]
theorem abR (h:a.kd=1) (hn:a.nd=((n:Nat):Int)) (hq:a.qu=((q:Nat):Int)):m.act a=m.make n q:=by
 unfold Cl.act;rw [if_pos h,hn,hq,Int.toNat_natCast,Int.toNat_natCast]
theorem abS (h:a.kd=2) (hq:a.qu=((q:Nat):Int)):m.act a={ m with fly:=m.fly++[Rp a.nd q a.op m.calls],calls:=m.calls+1 }:=by
 unfold Cl.act;rw [if_neg (by omega),if_pos h,hq,Int.toNat_natCast]
theorem abT (h:a.kd=3) (hn:a.nd=((n:Nat):Int)):m.act a=m.step n:=by
 unfold Cl.act;rw [if_neg (by omega),if_neg (by omega),if_pos h,hn,Int.toNat_natCast]
theorem Gw (h:a.kd=4∨a.kd=5∨a.kd=6):m.act a=m.pick a.at_.toNat (decide (a.kd≠5)) (decide (a.kd=6)):=by
 unfold Cl.act;rw [if_neg (by omega),if_neg (by omega),if_neg (by omega),if_pos h]
theorem afI (h:a.kd=4):m.act a=m.pick a.at_.toNat true false:=by rw [Gw (.inl h),h];rfl
theorem afJ (h:a.kd=5):m.act a=m.pick a.at_.toNat false false:=by rw [Gw (.inr (.inl h)),h];rfl
theorem afK (h:a.kd=6):m.act a=m.pick a.at_.toNat true true:=by rw [Gw (.inr (.inr h)),h];rfl
theorem afL (h:a.kd=7):m.act a=m.all:=by
 unfold Cl.act;rw [if_neg (by omega),if_neg (by omega),if_neg (by omega),if_neg (by omega),if_pos h]
theorem KG (h:a.kd=8) (hn:a.nd=((n:Nat):Int)):m.act a=m.crash n a.kp:=by
 unfold Cl.act;rw [if_neg (by omega),if_neg (by omega),if_neg (by omega),if_neg (by omega),if_neg (by omega),if_pos h,hn,Int.toNat_natCast]
theorem Yp (h:a.kd=9) (hn:a.nd=((n:Nat):Int)):m.act a=m.start n:=by
 unfold Cl.act;rw [if_neg (by omega),if_neg (by omega),if_neg (by omega),if_neg (by omega),if_neg (by omega),if_neg (by omega),if_pos h,hn,Int.toNat_natCast]
theorem Yq (h:a.kd≠1) (h2:a.kd≠2) (h3:a.kd≠3) (h4:a.kd≠4) (h5:a.kd≠5) (h6:a.kd≠6) (h7:a.kd≠7) (h8:a.kd≠8) (h9:a.kd≠9) (hq:a.qu=((q:Nat):Int)):m.act a=m.move q a.nd:=by
 unfold Cl.act;rw [if_neg h,if_neg h2,if_neg h3,if_neg (by omega),if_neg h7,if_neg h8,if_neg h9,hq,Int.toNat_natCast]
theorem abU (h:(m.av n).up=true) {kp:Int}:m.crash n kp=m.put n ((m.av n).crashed kp):=if_pos h
theorem Yr (h:(m.av n).up=false) {kp:Int}:m.crash n kp=m:=by
 unfold Cl.crash;rw [if_neg (by rw [h];simp)]
end
theorem abV {K:CK} {B n kn kw:Nat} {w0 w:World} {fs:List Fact} {m:Cl} {H:List LX} {q k:Nat} {a:Ac} (hn:n<5) (hq:q<4) (hnd:a.nd=((n:Nat):Int)) (hqd:a.qu=((q:Nat):Int)) (hkn:K.nb n=kn) (bR:K.wb=kw) (hu:Uk B w0) (HW:Wd K B w0 w fs m H) (oP:fJ m (4*k) (500000*k) (500000*k) k) (hk:k≤100000) (ha:acI a) (hsh:ShN m):
    Calls Tryz.prog 47 #[pV kw 0,.agg #[iV a.kd,iV a.nd,iV a.qu,iV a.at_,iV a.kp,iV a.ek,iV a.ep,iV a.ei,iV a.eb,iV a.eh,iV a.en]] w (fun e w'=>e= .returned (.tuple #[])∧Wd K B w0 w' fs (m.act a) H):=by
 obtain ⟨R,G,S0⟩:=HW.open hn;have hfl:R.fx.length=m.fly.length:=by rw [←G.fly,List.length_map]
 have NG:=G.lC n hn;obtain ⟨X,hX⟩: ∃ X,m.av n=X:=⟨_,rfl⟩;obtain ⟨z,hz⟩: ∃ z,R.nx n=z:=⟨_,rfl⟩;rw [hX,hz] at S0 NG;have hL: ∀ f∈R.L,f∈eZ K R m fs n:=fun f h=>List.mem_append_right _ (List.mem_append_right _ h)
 obtain ⟨rr,hrr⟩: ∃ r,eZ K R m fs n=r:=⟨_,rfl⟩;rw [hrr] at S0 hL;have S:St B w0 w ((.blk kn (aU n X.up (.slice z.tA X.data.length z.tc) X.syn (.slice (aD z.bb 0) 4 4) X.hints X.sure (.slice z.iA z.ix.length z.ic) (z.pv) X.turn) 129)::(.own 42 6 (.slice (aD z.bb 0) 4 4) 4 ((z.bx).flatMap BX.cells))::(.off 169 23 z.iA z.ix.length z.ic ((z.ix).flatMap LX.cells))::(.blk kw (bL (.slice R.nA 5 R.nc) m.off (.slice R.fA R.fx.length R.fc) m.shown (.slice R.sA m.aH.length R.sc) (.slice R.tA m.aM.length R.tc) m.calls) 121)::(.own 169 23 (.slice R.fA R.fx.length R.fc) R.fx.length ((R.fx).flatMap LX.cells))::(.own 85 14 (.slice R.sA m.aH.length R.sc) m.aH.length ((m.aH).flatMap eT.cells))::(.own 81 7 (.slice R.tA m.aM.length R.tc) m.aM.length ((m.aM).flatMap fK.cells))::rr):=by subst hkn;subst bR;exact S0
 clear S0 HW;have hlen:=(S.own 1 rfl).1;rw [gL (sz:=6) (fun _=>rfl)] at hlen;obtain ⟨ab,ao,oO⟩:=zn G.arr S (memT 7 rfl hL);have harr:=G.arr;rw [oO] at S harr;have hcl:=oP.calls;have aD7:=oP.fl;have aiH:a.at_=((a.at_.toNat:Nat):Int):=by have:=ha.at_;omega
 refine fE 144 Tryz.func47 ?_;refine cw [0,1] ?_;iterate 2 refine zQ ?_
 refine gD S ?_;intro b1 w2 S3;iterate 11 refine zQ ?_
 by_cases h4:a.kd=1
 ·iterate 5 refine zQ ?_
  have S5:St B w0 w2 [.blk b1 #[iV a.kd,iV a.nd,iV a.qu,iV a.at_,iV a.kp,iV a.ek,iV a.ep,iV a.ei,iV a.eb,iV a.eh,iV a.en] 77]:=S3.sub (List.Sublist.cons_cons _ (List.nil_sublist _));have QK:=S3.drew;have S6:=S5.drew;refine aN 12 S6 [] ?_;iterate 5 refine aF ?_
  refine ak (v:=iV ((n:Nat):Int)) 6 rfl S6 (fun _ Yk=>(zo hnd (aj rfl rfl (aA Tryz.underlying3 rfl (St.cl 0 Yk rfl rfl))))) ?_;refine aF ?_;refine ak (v:=iV ((q:Nat):Int)) 10 rfl S6 (fun _ ahK=>(zo hqd (aj rfl rfl (aA Tryz.underlying3 rfl (St.cl 0 ahK rfl rfl))))) ?_;refine aS 4 ?_;refine dW (i:=4) rfl rfl (v:= .slice (aD ab ao) 5 R.nc) (wn rfl) rfl rfl (aj rfl rfl (aA Tryz.underlying114 rfl (St.cl 4 QK rfl xP))) ?_;refine aF ?_;refine ak 7 rfl S6 (fun _ _=>gM n) ?_;refine aS 8 ?_;refine dW (i:=8) rfl rfl (v:=pV kn 0) (wn rfl) rfl rfl (aj rfl rfl (aA Tryz.underlying122 rfl (hkn▸uq harr hn QK (memT 8 rfl hL)))) ?_;refine aF ?_;refine aS 11 ?_;have jR:=QK.dM [7,7,7,7,7,7,7];have iD:=jR;rw [←oO] at iD;have aiG:=Wd.dw (m:=m) (m':=m) (H:=H) (H':=H) (fs:=(.blk b1 #[iV a.kd,iV a.nd,iV a.qu,iV a.at_,iV a.kp,iV a.ek,iV a.ep,iV a.ei,iV a.eb,iV a.eh,iV a.en] 77)::fs) (X':=X) (z':=z) (Ls:=[]) (fA:=R.fA) (fc:=R.fc) (fx:=R.fx) (sA:=R.sA) (sc:=R.sc) (tA:=R.tA) (tc:=R.tc) (rr:=(.blk b1 #[iV a.kd,iV a.nd,iV a.qu,iV a.at_,iV a.kp,iV a.ek,iV a.ep,iV a.ei,iV a.eb,iV a.eh,iV a.en] 77)::rr) hkn bR (by rw [←hrr]<;>rfl) G hn iD NG.more (fun u hu=> .inl hu) (aQ hX).symm G.fly.symm mI;refine iH 11 rfl asD (TK hn hkn bR hu (by have:=oP.fl;omega) (by have:=oP.aH;omega) hq aiG (oP.lC n hn).nY (fun rs d h=>(oP.lC n hn).awW h)) ?_;rintro _ ZH ⟨rfl,aor⟩;refine ⟨_,rfl,?_⟩;have qP:=Wd.uS (gs:=[.blk b1 #[iV a.kd,iV a.nd,iV a.qu,iV a.at_,iV a.kp,iV a.ek,iV a.ep,iV a.ei,iV a.eb,iV a.eh,iV a.en] 77]) aor;iterate 2 refine aF ?_
  refine bN (l':=[]) trivial (gy (aY (rs:=[]) (vs:=[]) rfl trivial ?_));rw [abR (by assumption) hnd hqd];exact ⟨rfl,(Wd.less (gs:=[.blk b1 #[iV a.kd,iV a.nd,iV a.qu,iV a.at_,iV a.kp,iV a.ek,iV a.ep,iV a.ei,iV a.eb,iV a.eh,iV a.en] 77]) aor)⟩
 iterate 7 refine zQ ?_
 by_cases h22:a.kd=2
 ·iterate 6 refine zQ ?_
  have mE:=S3.dM [5,5];have jB:=mE.drew;refine aN 14 jB [1,0] ?_;iterate 4 refine aF ?_
  refine ak (v:=iV ((q:Nat):Int)) 4 rfl (jB.oh [1,0]) (fun _ aiy=>(zo hqd (aj rfl rfl (aA Tryz.underlying3 rfl (St.cl 0 aiy rfl rfl))))) ?_;refine aF ?_;refine ak (v:= .agg #[iV a.ek,iV a.ep,iV a.ei,iV a.eb,iV a.eh,iV a.en]) 6 rfl (jB.oh [1,0]) (fun _ WI=>(aj rfl rfl (aG (cs:=[iV a.ek,iV a.ep,iV a.ei,iV a.eb,iV a.eh,iV a.en]) Tryz.underlying75 rfl jT rfl (St.rg 0 WI rfl (mR (x:=5) (m:=6) rfl))))) ?_;iterate 4 refine aF ?_
  refine aS 11 ?_;refine dW (i:=11) rfl rfl (v:=iV ((m.calls:Nat):Int)) (wn rfl) rfl rfl (aj rfl rfl (aA Tryz.underlying3 rfl (St.cl 0 jB rfl agJ))) ?_;refine aF ?_;refine ak (v:= .agg #[iV 0,iV (-1),iV a.nd,iV ((q:Nat):Int),iV 0,iV 0,iV 0,iV a.ek,iV a.ep,iV a.ei,iV a.eb,iV a.eh,iV a.en,.slice none 0 0,.bool false,iV ((m.calls:Nat):Int),iV 0,iV 0,iV 0,iV 0,iV 0,iV 0,iV 0]) 12 rfl (jB.oh [1,0]) (fun _ _=>gZ) ?_;refine aS 13 ?_;refine iH 13 rfl wm (fO (x:=⟨Rp a.nd q a.op m.calls,none,0⟩) jB (by have:=oP.fl;omega)) ?_;rintro _ Zt ⟨rfl,Ml,Mq,anB,aic,tC⟩;refine ⟨_,rfl,?_⟩;iterate 2 refine aF ?_
  iterate 6 refine zQ ?_
  refine vv (aj rfl rfl (aA Tryz.underlying3 rfl (St.cl 0 tC rfl agJ))) ?_;refine vv (v:=iV ((m.calls+1:Nat):Int)) jv ?_;iterate 3 refine zQ ?_
  refine iU 0 tC fM ?_ (hs:=by exact ap5);intro w43 Ar;refine zQ ?_;refine bN (l':=[]) trivial (gy (aY (rs:=[]) (vs:=[]) rfl trivial ?_));rw [abS (by assumption) hqd];subst aic;have mW:=Ar.aR [2];have qj:=mW.dM [6,6,3,3,6,6,6];rw [←oO] at qj;exact ⟨rfl,Wd.dw (X':=X) (z':=z) (Ls:=[]) (fA:=Ml) (fc:=Mq) (fx:=R.fx++[(⟨Rp a.nd q a.op m.calls,none,0⟩:LX)]) (sA:=R.sA) (sc:=R.sc) (tA:=R.tA) (tc:=R.tc) hkn bR hrr G hn qj NG.more (nu (gY rfl)) (aQ hX).symm (by rw [List.map_append,G.fly];rfl) mI⟩
 iterate 7 refine zQ ?_
 by_cases h47:a.kd=3
 ·iterate 5 refine zQ ?_
  have qX:St B w0 w2 [.blk b1 #[iV a.kd,iV a.nd,iV a.qu,iV a.at_,iV a.kp,iV a.ek,iV a.ep,iV a.ei,iV a.eb,iV a.eh,iV a.en] 77]:=S3.sub (List.Sublist.cons_cons _ (List.nil_sublist _));have QK:=S3.drew;have sD:=qX.drew;refine aN 10 sD [] ?_;iterate 5 refine aF ?_
  refine ak (v:=iV ((n:Nat):Int)) 6 rfl sD (fun _ aif=>(zo hnd (aj rfl rfl (aA Tryz.underlying3 rfl (St.cl 0 aif rfl rfl))))) ?_;refine aS 4 ?_;refine dW (i:=4) rfl rfl (v:= .slice (aD ab ao) 5 R.nc) (wn rfl) rfl rfl (aj rfl rfl (aA Tryz.underlying114 rfl (St.cl 4 QK rfl xP))) ?_;refine aF ?_;refine ak 7 rfl sD (fun _ _=>gM n) ?_;refine aS 8 ?_;refine dW (i:=8) rfl rfl (v:=pV kn 0) (wn rfl) rfl rfl (aj rfl rfl (aA Tryz.underlying122 rfl (hkn▸uq harr hn QK (memT 8 rfl hL)))) ?_;refine aF ?_;refine aS 9 ?_;have sF:=QK.dM [7,7,7,7,7,7,7];have uQ:=sF;rw [←oO] at uQ;have axH:=Wd.dw (m:=m) (m':=m) (H:=H) (H':=H) (fs:=(.blk b1 #[iV a.kd,iV a.nd,iV a.qu,iV a.at_,iV a.kp,iV a.ek,iV a.ep,iV a.ei,iV a.eb,iV a.eh,iV a.en] 77)::fs) (X':=X) (z':=z) (Ls:=[]) (fA:=R.fA) (fc:=R.fc) (fx:=R.fx) (sA:=R.sA) (sc:=R.sc) (tA:=R.tA) (tc:=R.tc) (rr:=(.blk b1 #[iV a.kd,iV a.nd,iV a.qu,iV a.at_,iV a.kp,iV a.ek,iV a.ep,iV a.ei,iV a.eb,iV a.eh,iV a.en] 77)::rr) hkn bR (by rw [←hrr]<;>rfl) G hn uQ NG.more (fun u hu=> .inl hu) (aQ hX).symm G.fly.symm mI;refine iH 9 rfl asE (TJ hn hkn bR hu (by have:=oP.fi hn;omega) (by have:=oP.aH;have:=oP.il hn;omega) (by have:=oP.turn n hn;omega) axH (oP.lC n hn).nY (fun l hl=>OH (oP.mY n hn l hl)) (fun p h=>(oP.lC n hn).fit h)) ?_;rintro _ w61 ⟨rfl,aos⟩;refine ⟨_,rfl,?_⟩;have FV:=Wd.uS (gs:=[.blk b1 #[iV a.kd,iV a.nd,iV a.qu,iV a.at_,iV a.kp,iV a.ek,iV a.ep,iV a.ei,iV a.eb,iV a.eh,iV a.en] 77]) aos;iterate 2 refine aF ?_
  refine bN (l':=[]) trivial (gy (aY (rs:=[]) (vs:=[]) rfl trivial ?_));rw [abT (by assumption) hnd];exact ⟨rfl,(Wd.less (gs:=[.blk b1 #[iV a.kd,iV a.nd,iV a.qu,iV a.at_,iV a.kp,iV a.ek,iV a.ep,iV a.ei,iV a.eb,iV a.eh,iV a.en] 77]) aos)⟩
 iterate 8 refine zQ ?_
 by_cases h63:a.kd=4
 ·iterate 11 refine zQ ?_
  refine vv (v:=iV ((a.at_.toNat:Nat):Int)) (zo aiH (aj rfl rfl (aA Tryz.underlying3 rfl (St.cl 0 S3 rfl rfl)))) ?_;iterate 6 refine zQ ?_
  have S64:=S3.dM [7,7,7,7,7,7,7];have Bj:=S64;rw [←oO] at Bj;have acM:=Wd.dw (m:=m) (m':=m) (H:=H) (H':=H) (fs:=(.blk b1 #[iV a.kd,iV a.nd,iV a.qu,iV a.at_,iV a.kp,iV a.ek,iV a.ep,iV a.ei,iV a.eb,iV a.eh,iV a.en] 77)::fs) (X':=X) (z':=z) (Ls:=[]) (fA:=R.fA) (fc:=R.fc) (fx:=R.fx) (sA:=R.sA) (sc:=R.sc) (tA:=R.tA) (tc:=R.tc) (rr:=(.blk b1 #[iV a.kd,iV a.nd,iV a.qu,iV a.at_,iV a.kp,iV a.ek,iV a.ep,iV a.ei,iV a.eb,iV a.eh,iV a.en] 77)::rr) hkn bR (by rw [←hrr]<;>rfl) G hn Bj NG.more (fun u hu=> .inl hu) (aQ hX).symm G.fly.symm mI;refine dO ahf (AV hn hkn bR hu (by have:=oP.fl;omega) (by have:=oP.aM;omega) (fun j hj=>by have:=oP.il hj;omega) acM (fun l hl=>(oP.Ep l hl).tgt)) ?_;rintro _ w68 ⟨rfl,XY⟩;refine ⟨_,rfl,?_⟩;have xg:=Wd.uS (gs:=[.blk b1 #[iV a.kd,iV a.nd,iV a.qu,iV a.at_,iV a.kp,iV a.ek,iV a.ep,iV a.ei,iV a.eb,iV a.eh,iV a.en] 77]) XY;refine zQ ?_;refine bN (l':=[]) trivial (gy (aY (rs:=[]) (vs:=[]) rfl trivial ?_));rw [afI (by assumption)];exact ⟨rfl,(Wd.less (gs:=[.blk b1 #[iV a.kd,iV a.nd,iV a.qu,iV a.at_,iV a.kp,iV a.ek,iV a.ep,iV a.ei,iV a.eb,iV a.eh,iV a.en] 77]) XY)⟩
 iterate 7 refine zQ ?_
 by_cases h70:a.kd=5
 ·iterate 11 refine zQ ?_
  refine vv (v:=iV ((a.at_.toNat:Nat):Int)) (zo aiH (aj rfl rfl (aA Tryz.underlying3 rfl (St.cl 0 S3 rfl rfl)))) ?_;iterate 6 refine zQ ?_
  have qh:=S3.dM [7,7,7,7,7,7,7];have qL:=qh;rw [←oO] at qL;have axI:=Wd.dw (m:=m) (m':=m) (H:=H) (H':=H) (fs:=(.blk b1 #[iV a.kd,iV a.nd,iV a.qu,iV a.at_,iV a.kp,iV a.ek,iV a.ep,iV a.ei,iV a.eb,iV a.eh,iV a.en] 77)::fs) (X':=X) (z':=z) (Ls:=[]) (fA:=R.fA) (fc:=R.fc) (fx:=R.fx) (sA:=R.sA) (sc:=R.sc) (tA:=R.tA) (tc:=R.tc) (rr:=(.blk b1 #[iV a.kd,iV a.nd,iV a.qu,iV a.at_,iV a.kp,iV a.ek,iV a.ep,iV a.ei,iV a.eb,iV a.eh,iV a.en] 77)::rr) hkn bR (by rw [←hrr]<;>rfl) G hn qL NG.more (fun u hu=> .inl hu) (aQ hX).symm G.fly.symm mI;refine dO ahf (AV hn hkn bR hu (by have:=oP.fl;omega) (by have:=oP.aM;omega) (fun j hj=>by have:=oP.il hj;omega) axI (fun l hl=>(oP.Ep l hl).tgt)) ?_;rintro _ w75 ⟨rfl,aot⟩;refine ⟨_,rfl,?_⟩;have FP:=Wd.uS (gs:=[.blk b1 #[iV a.kd,iV a.nd,iV a.qu,iV a.at_,iV a.kp,iV a.ek,iV a.ep,iV a.ei,iV a.eb,iV a.eh,iV a.en] 77]) aot;refine zQ ?_;refine bN (l':=[]) trivial (gy (aY (rs:=[]) (vs:=[]) rfl trivial ?_));rw [afJ (by assumption)];exact ⟨rfl,(Wd.less (gs:=[.blk b1 #[iV a.kd,iV a.nd,iV a.qu,iV a.at_,iV a.kp,iV a.ek,iV a.ep,iV a.ei,iV a.eb,iV a.eh,iV a.en] 77]) aot)⟩
 iterate 6 refine zQ ?_
 by_cases h77:a.kd=6
 ·iterate 8 refine zQ ?_
  refine vv (v:=iV ((a.at_.toNat:Nat):Int)) (zo aiH (aj rfl rfl (aA Tryz.underlying3 rfl (St.cl 0 S3 rfl rfl)))) ?_;iterate 6 refine zQ ?_
  have Bg:=S3.dM [7,7,7,7,7,7,7];have xG:=Bg;rw [←oO] at xG;have axJ:=Wd.dw (m:=m) (m':=m) (H:=H) (H':=H) (fs:=(.blk b1 #[iV a.kd,iV a.nd,iV a.qu,iV a.at_,iV a.kp,iV a.ek,iV a.ep,iV a.ei,iV a.eb,iV a.eh,iV a.en] 77)::fs) (X':=X) (z':=z) (Ls:=[]) (fA:=R.fA) (fc:=R.fc) (fx:=R.fx) (sA:=R.sA) (sc:=R.sc) (tA:=R.tA) (tc:=R.tc) (rr:=(.blk b1 #[iV a.kd,iV a.nd,iV a.qu,iV a.at_,iV a.kp,iV a.ek,iV a.ep,iV a.ei,iV a.eb,iV a.eh,iV a.en] 77)::rr) hkn bR (by rw [←hrr]<;>rfl) G hn xG NG.more (fun u hu=> .inl hu) (aQ hX).symm G.fly.symm mI;refine dO ahf (AV hn hkn bR hu (by have:=oP.fl;omega) (by have:=oP.aM;omega) (fun j hj=>by have:=oP.il hj;omega) axJ (fun l hl=>(oP.Ep l hl).tgt)) ?_;rintro _ w82 ⟨rfl,aou⟩;refine ⟨_,rfl,?_⟩;have uj:=Wd.uS (gs:=[.blk b1 #[iV a.kd,iV a.nd,iV a.qu,iV a.at_,iV a.kp,iV a.ek,iV a.ep,iV a.ei,iV a.eb,iV a.eh,iV a.en] 77]) aou;refine zQ ?_;refine bN (l':=[]) trivial (gy (aY (rs:=[]) (vs:=[]) rfl trivial ?_));rw [afK (by assumption)];exact ⟨rfl,(Wd.less (gs:=[.blk b1 #[iV a.kd,iV a.nd,iV a.qu,iV a.at_,iV a.kp,iV a.ek,iV a.ep,iV a.ei,iV a.eb,iV a.eh,iV a.en] 77]) aou)⟩
 iterate 7 refine zQ ?_
 by_cases h84:a.kd=7
 ·iterate 10 refine zQ ?_
  refine vv (aj rfl rfl (aA Tryz.underlying115 rfl (St.cl 4 S3 rfl Ni))) ?_;iterate 8 refine zQ ?_
  refine iU 4 S3 zG ?_ (hs:=by exact ah9);intro Qu uh;iterate 10 refine zQ ?_
  have Du:=uh.aR [0];have IV:=Du.nil 169 23;have FQ:=((((((((IV.bring 5 rfl).bring 7 rfl).bring 7 rfl).bring 3 rfl).bring 7 rfl).bring 7 rfl).bring 7 rfl).bring 7 rfl);rw [←oO] at FQ;obtain ⟨m1,hm1⟩: ∃ k,k=({ m with fly:=[] }:Cl):=⟨_,rfl⟩;have HW1:Wd K B w0 Qu ((.own 169 23 (.slice R.fA R.fx.length R.fc) R.fx.length ((R.fx).flatMap LX.cells))::fs) m1 (R.fx++H):=by
   rw [hm1];exact Wd.dw (m:=m) (H:=H) (fs:=(.own 169 23 (.slice R.fA R.fx.length R.fc) R.fx.length ((R.fx).flatMap LX.cells))::fs) (X':=X) (z':=z) (Ls:=[]) (fA:=none) (fc:=0) (fx:=[]) (sA:=R.sA) (sc:=R.sc) (tA:=R.tA) (tc:=R.tc) (rr:=(.own 169 23 (.slice R.fA R.fx.length R.fc) R.fx.length ((R.fx).flatMap LX.cells))::rr) hkn bR (by rw [←hrr];rfl) G hn FQ NG.more (fun u hu=>by simp at hu) (aQ hX).symm rfl (fun u hu=>(List.mem_append.1 hu).elim (fun h=> .inr ((G.Z0 u h).mono fun f hf=>List.mem_append_left _ hf)) .inl)
  have hB0:=abP oP;rw [←hm1] at hB0;refine fH (X:=Nat×Cl) (fun xv=>[(0,pV kw 0),(90,.slice R.fA R.fx.length R.fc),(91,iV ((R.fx.length:Nat):Int)),(92,iV ((xv.1:Nat):Int))]) (fun xv wr=>(Wd K B w0 wr ((.own 169 23 (.slice R.fA R.fx.length R.fc) R.fx.length ((R.fx).flatMap LX.cells))::fs) xv.2 (R.fx.drop xv.1++H))∧(m.fly.foldl Cl.come m1=(m.fly.drop xv.1).foldl Cl.come xv.2)∧(xv.1≤R.fx.length)∧(fJ xv.2 (4*k+xv.1) (500000*k) (500000*k+xv.1) k)∧St B w0 wr [.own 169 23 (.slice R.fA R.fx.length R.fc) R.fx.length ((R.fx).flatMap LX.cells)]) (fun xv=>R.fx.length-xv.1) (0,m1) ?_ ?_ ?_
  ·exact ⟨HW1,rfl,Nat.zero_le _,hB0,Wd.uS (gs:=[.own 169 23 (.slice R.fA R.fx.length R.fc) R.fx.length ((R.fx).flatMap LX.cells)]) HW1⟩
  ·exact ⟨rfl,rfl,rfl,rfl,trivial⟩
  rintro ⟨k2,mm⟩ VQ ⟨aiI,aiJ,axK,Yt,rP⟩
  try dsimp only at aiI aiJ axK Yt rP
  refine bq (l':=[(0,pV kw 0),(90,.slice R.fA R.fx.length R.fc),(91,iV ((R.fx.length:Nat):Int)),(92,iV ((k2:Nat):Int))]) ⟨rfl,rfl,rfl,rfl,trivial⟩ ?_;obtain ⟨R3,G3,QH⟩:=aiI.open hn;have OM:=G3.lC n hn;obtain ⟨X3,zq⟩: ∃ X,mm.av n=X:=⟨_,rfl⟩;obtain ⟨z3,hz3⟩: ∃ z,R3.nx n=z:=⟨_,rfl⟩;rw [zq,hz3] at QH OM;obtain ⟨U5,Fz⟩: ∃ r,eZ K R3 mm fs n=r:=⟨_,rfl⟩;have Bn:St B w0 VQ ((.blk kn (aU n X3.up (.slice z3.tA X3.data.length z3.tc) X3.syn (.slice (aD z3.bb 0) 4 4) X3.hints X3.sure (.slice z3.iA z3.ix.length z3.ic) (z3.pv) X3.turn) 129)::(.own 42 6 (.slice (aD z3.bb 0) 4 4) 4 ((z3.bx).flatMap BX.cells))::(.off 169 23 z3.iA z3.ix.length z3.ic ((z3.ix).flatMap LX.cells))::(.blk kw (bL (.slice R3.nA 5 R3.nc) mm.off (.slice R3.fA R3.fx.length R3.fc) mm.shown (.slice R3.sA mm.aH.length R3.sc) (.slice R3.tA mm.aM.length R3.tc) mm.calls) 121)::(.own 169 23 (.slice R3.fA R3.fx.length R3.fc) R3.fx.length ((R3.fx).flatMap LX.cells))::(.own 85 14 (.slice R3.sA mm.aH.length R3.sc) mm.aH.length ((mm.aH).flatMap eT.cells))::(.own 81 7 (.slice R3.tA mm.aM.length R3.tc) mm.aM.length ((mm.aM).flatMap fK.cells))::(.own 169 23 (.slice R.fA R.fx.length R.fc) R.fx.length ((R.fx).flatMap LX.cells))::U5):=by rw [←Fz];subst hkn;subst bR;exact QH
  clear QH;iterate 2 refine zQ ?_
  by_cases h97:((k2:Nat):Int)< ((R.fx.length:Nat):Int)
  ·iterate 10 refine zQ ?_
   obtain ⟨x,hx⟩: ∃ x,R.fx[k2]? =some x:=⟨_,List.getElem?_eq_getElem (by omega)⟩;have hxf:m.fly[k2]? =some x.l:=by rw [←G.fly,List.getElem?_map,hx];rfl
   have hxb:=oP.Ep x.l (List.mem_of_getElem? hxf);refine zQ ?_;obtain ⟨fb,fo,hfA⟩:=rd_some (St.ord 7 Bn rfl) (by omega);refine vv (v:=pV fb (fo+k2*23)) (bP rfl rfl rfl (mJ k2 hfA Tryz.underlying115 vD (by omega) (by omega))) ?_;refine vv (v:= .agg (LX.row x)) (aj rfl rfl (aG (cs:=LX.cells x) Tryz.underlying169 rfl vD rfl (fun j u hu=>by rw [Nat.add_assoc];exact Fw (St.ord 7 Bn rfl) hfA (bS (enc:=LX.cells) (sz:=23) (k:=k2) (fun _=>rfl) hx hu)))) ?_;refine eU Bn YG ?_;intro b98 w99 oJ;refine stA 0 oJ vD ?_ (h1:=Bp _);intro ahp pG;iterate 5 refine zQ ?_
   have l9:=pG.aR [0];have aqW:=Wd.dw (m:=mm) (m':=mm) (H:=R.fx.drop k2++H) (H':=x::(R.fx.drop (k2+1)++H)) (fs:=(.own 169 23 (.slice R.fA R.fx.length R.fc) R.fx.length ((R.fx).flatMap LX.cells))::fs) (X':=X3) (z':=z3) (Ls:=[]) (fA:=R3.fA) (fc:=R3.fc) (fx:=R3.fx) (sA:=R3.sA) (sc:=R3.sc) (tA:=R3.tA) (tc:=R3.tc) (rr:=(.own 169 23 (.slice R.fA R.fx.length R.fc) R.fx.length ((R.fx).flatMap LX.cells))::U5) hkn bR (by rw [←Fz];rfl) G3 hn ((((((((l9.bring 7 rfl).bring 7 rfl).bring 7 rfl).bring 7 rfl).bring 7 rfl).bring 7 rfl).bring 7 rfl).bring 7 rfl) OM.more (fun u hu=> .inl hu) (aQ zq).symm G3.fly.symm (by rw [drop_cons hx];exact mI);obtain ⟨jj,hjj,htt⟩:=hxb.tgt;refine dO ahg (AU (m:=mm) (x:=x) hjj rfl bR hu (by have:=(Yt).fl;omega) (by have:=(Yt).aM;omega) (by have:=(Yt).il hjj;omega) aqW htt) ?_;rintro _ Wj ⟨rfl,Y0⟩;refine ⟨_,rfl,?_⟩;obtain ⟨mc,hmc⟩: ∃ k,k=mm.come x.l:=⟨_,rfl⟩;have wo:=Wd.uS (gs:=[.own 169 23 (.slice R.fA R.fx.length R.fc) R.fx.length ((R.fx).flatMap LX.cells)]) Y0;iterate 4 refine zQ ?_
   refine vv (v:=iV ((k2+1:Nat):Int)) jv ?_;iterate 2 refine zQ ?_
   refine bY (k2+1,mc) ?_ ⟨rfl,rfl,rfl,rfl,trivial⟩ (by first | omega | (dsimp only;omega));exact ⟨(by dsimp only;rw [hmc];exact Y0),(by dsimp only;rw [aiJ,abQ hxf,←hmc]),(by dsimp only;omega),(by dsimp only;rw [hmc];exact (DL Yt hxb).mono (by omega) (Nat.le_refl _) (by omega) (Nat.le_refl _)),(Wd.uS (gs:=[.own 169 23 (.slice R.fA R.fx.length R.fc) R.fx.length ((R.fx).flatMap LX.cells)]) (hmc▸Y0))⟩
  iterate 11 refine zQ ?_
  have oZ:m.act a=mm:=by rw [afL (by assumption)];show m.fly.foldl Cl.come { m with fly:=[] }=mm;rw [←hm1,aiJ,List.drop_eq_nil_of_le (by omega)];rfl
  rw [oZ];have axL:R.fx.length≤k2:=by omega
  exact ⟨rfl,Wd.less (gs:=[.own 169 23 (.slice R.fA R.fx.length R.fc) R.fx.length ((R.fx).flatMap LX.cells)]) (by have h9:=aiI;rw [List.drop_eq_nil_of_le axL] at h9;exact h9)⟩
 iterate 7 refine zQ ?_
 by_cases ahZ:a.kd=8
 ·iterate 6 refine zQ ?_
  refine eH S3 mixed (by kernel_rfl) ?_;iterate 3 refine zQ ?_
  refine uv (v:= .slice (aD ab ao) 5 R.nc) (fun _ aqX=>(aj rfl rfl (aA Tryz.underlying114 rfl (St.cl 4 aqX rfl xP)))) ?_;refine zQ ?_;refine uv (v:=iV ((n:Nat):Int)) (fun _ aqY=>(zo hnd (aj rfl rfl (aA Tryz.underlying3 rfl (St.cl 0 aqY rfl rfl))))) ?_;refine uv (fun _ _=>gM n) ?_;refine uv (v:=pV kn 0) (fun _ aqZ=>(aj rfl rfl (aA Tryz.underlying122 rfl (hkn▸uq harr hn aqZ (memT 8 rfl hL))))) ?_;refine zQ ?_;refine fC fun JQ kX=>?_
  iterate 9 refine zQ ?_
  cases azl:(X.up)
  ·refine bq (l':=[(3,pV b1 0),(7,pV kn 0),(113,.bool false)]) ⟨rfl,rfl,rfl,trivial⟩ (kQ rfl (oU (gy (aY (rs:=[]) (vs:=[]) rfl trivial ?_))));have tV:=kX.aR [0];have pz:=tV;rw [←oO] at pz;have aq0:=Wd.dw (m:=m) (m':=m) (H:=H) (H':=H) (fs:=fs) (X':=X) (z':=z) (Ls:=[]) (fA:=R.fA) (fc:=R.fc) (fx:=R.fx) (sA:=R.sA) (sc:=R.sc) (tA:=R.tA) (tc:=R.tc) (rr:=rr) hkn bR (by rw [←hrr]<;>rfl) G hn pz NG.more (fun u hu=> .inl hu) (aQ hX).symm G.fly.symm mI;rw [KG (by assumption) hnd,Yr (by rw [hX];assumption)];exact ⟨rfl,aq0⟩
  refine bq (l':=[(3,pV b1 0),(7,pV kn 0),(113,.bool true)]) ⟨rfl,rfl,rfl,trivial⟩ (kP rfl (aW ?_));have Kk:=kX.drew;refine aN 14 Kk [1] ?_;iterate 6 refine aF ?_
  refine aS 4 ?_;refine dW (i:=4) rfl rfl (v:= .agg #[.slice z.tA X.data.length z.tc,iV X.syn]) (wn rfl) rfl rfl (aj rfl rfl (aG (cs:=[.slice z.tA X.data.length z.tc,iV X.syn]) Tryz.underlying125 rfl dX rfl (St.rg 1 Kk rfl (qy)))) ?_;refine aF ?_;refine aS 7 ?_;refine iH 7 rfl asF (yI (O4 z.tA X.data.length z.tc X.data X.syn a.kp _ (NG.vO.rd Kk (memT 8 rfl hL)))) ?_;rintro _ Ih ⟨acS,aiK,rfl,axM⟩;refine ⟨_,rfl,?_⟩;have pI:=Kk.ext axM rfl;iterate 6 refine aF ?_
  refine aS 13 ?_;refine snz (row':=aU n X.up (.slice acS ((nI X.data X.syn a.kp).1.length) aiK) ((nI X.data X.syn a.kp).2.1) (.slice (aD z.bb 0) 4 4) X.hints X.sure (.slice z.iA z.ix.length z.ic) (z.pv) X.turn) 13 rfl 2 pI dX ?_;intro ant EY;iterate 2 refine aF ?_
  iterate 6 refine zQ ?_
  refine iU (row':=aU n false (.slice acS ((nI X.data X.syn a.kp).1.length) aiK) ((nI X.data X.syn a.kp).2.1) (.slice (aD z.bb 0) 4 4) X.hints X.sure (.slice z.iA z.ix.length z.ic) (z.pv) X.turn) 2 EY EM ?_;intro atL Rb;iterate 4 refine zQ ?_
  have Dq:=Rb.dM [2];refine dO MS (lY Dq hu) ?_;rintro _ aht ⟨rfl,aq2,xK⟩;refine ⟨_,rfl,?_⟩;have xM:=xK.aR [5,4,3];refine zQ ?_;refine bN (l':=[]) trivial (gy (aY (rs:=[]) (vs:=[]) rfl trivial ?_));rw [KG (by assumption) hnd,abU (by rw [hX];assumption)];have XT:=xM.zH 169 23;have EZ:=XT.dM [7,7,7,7,4,6,6];rw [←oO] at EZ;exact ⟨rfl,Wd.dw (X':=X.crashed a.kp) (z':={ bb:=aq2,tA:=acS,tc:=aiK,bx:=qW,iA:=none,ic:=0,ix:=[],pv:= .nilFunc }) (Ls:=[.bG 1 acS ((nI X.data X.syn a.kp).1.length) (byteCells ((nI X.data X.syn a.kp).1))]) (fA:=R.fA) (fc:=R.fc) (fx:=R.fx) (sA:=R.sA) (sc:=R.sc) (tA:=R.tA) (tc:=R.tc) hkn bR hrr G hn EZ ⟨rfl,KF,Ro.bG (List.mem_append_right _ (List.mem_singleton.2 rfl)),rfl,fun y hy=>(by cases hy),rfl⟩ (fun u hu=> .inl hu) (by rw [hX];rfl) G.fly.symm mI⟩
 iterate 7 refine zQ ?_
 by_cases aD8:a.kd=9
 ·iterate 5 refine zQ ?_
  have V8:St B w0 w2 [.blk b1 #[iV a.kd,iV a.nd,iV a.qu,iV a.at_,iV a.kp,iV a.ek,iV a.ep,iV a.ei,iV a.eb,iV a.eh,iV a.en] 77]:=S3.sub (List.Sublist.cons_cons _ (List.nil_sublist _));have QK:=S3.drew;have tX:=V8.drew;refine aN 10 tX [] ?_;iterate 5 refine aF ?_
  refine ak (v:=iV ((n:Nat):Int)) 6 rfl tX (fun _ YL=>(zo hnd (aj rfl rfl (aA Tryz.underlying3 rfl (St.cl 0 YL rfl rfl))))) ?_;refine aS 4 ?_;refine dW (i:=4) rfl rfl (v:= .slice (aD ab ao) 5 R.nc) (wn rfl) rfl rfl (aj rfl rfl (aA Tryz.underlying114 rfl (St.cl 4 QK rfl xP))) ?_;refine aF ?_;refine ak 7 rfl tX (fun _ _=>gM n) ?_;refine aS 8 ?_;refine dW (i:=8) rfl rfl (v:=pV kn 0) (wn rfl) rfl rfl (aj rfl rfl (aA Tryz.underlying122 rfl (hkn▸uq harr hn QK (memT 8 rfl hL)))) ?_;refine aF ?_;refine aS 9 ?_;have Fb:=QK.dM [7,7,7,7,7,7,7];have JW:=Fb;rw [←oO] at JW;have RL:=Wd.dw (m:=m) (m':=m) (H:=H) (H':=H) (fs:=(.blk b1 #[iV a.kd,iV a.nd,iV a.qu,iV a.at_,iV a.kp,iV a.ek,iV a.ep,iV a.ei,iV a.eb,iV a.eh,iV a.en] 77)::fs) (X':=X) (z':=z) (Ls:=[]) (fA:=R.fA) (fc:=R.fc) (fx:=R.fx) (sA:=R.sA) (sc:=R.sc) (tA:=R.tA) (tc:=R.tc) (rr:=(.blk b1 #[iV a.kd,iV a.nd,iV a.qu,iV a.at_,iV a.kp,iV a.ek,iV a.ep,iV a.ei,iV a.eb,iV a.eh,iV a.en] 77)::rr) hkn bR (by rw [←hrr]<;>rfl) G hn JW NG.more (fun u hu=> .inl hu) (aQ hX).symm G.fly.symm mI;refine iH 9 rfl asG (Qe hn hkn bR hu (by have:=oP.fl;omega) (by have:=oP.aH;omega) RL (oP.lC n hn).MR.1 (oP.lC n hn).MR.2.1 (oP.lC n hn).MR.2.2.1 (oP.lC n hn).MR.2.2.2 hsh) ?_;rintro _ auF ⟨rfl,ag6⟩;refine ⟨_,rfl,?_⟩;have amI:=Wd.uS (gs:=[.blk b1 #[iV a.kd,iV a.nd,iV a.qu,iV a.at_,iV a.kp,iV a.ek,iV a.ep,iV a.ei,iV a.eb,iV a.eh,iV a.en] 77]) ag6;iterate 2 refine aF ?_
  refine bN (l':=[]) trivial (gy (aY (rs:=[]) (vs:=[]) rfl trivial ?_));rw [Yp (by assumption) hnd];exact ⟨rfl,(Wd.less (gs:=[.blk b1 #[iV a.kd,iV a.nd,iV a.qu,iV a.at_,iV a.kp,iV a.ek,iV a.ep,iV a.ei,iV a.eb,iV a.eh,iV a.en] 77]) ag6)⟩
 iterate 8 refine zQ ?_
 refine vv (v:=iV ((q:Nat):Int)) (zo hqd (aj rfl rfl (aA Tryz.underlying3 rfl (St.cl 0 S3 rfl rfl)))) ?_;iterate 2 refine zQ ?_
 obtain ⟨PW,uw⟩: ∃ r,bI m.off q=r:=⟨_,rfl⟩;obtain ⟨nn,hnn,hwn⟩:=afH uw;have M4:=S3.dM [7,7,7,7,7,7,7];have Rk:=M4;rw [←oO] at Rk;have aq3:=Wd.dw (m:=m) (m':=m) (H:=H) (H':=H) (fs:=(.blk b1 #[iV a.kd,iV a.nd,iV a.qu,iV a.at_,iV a.kp,iV a.ek,iV a.ep,iV a.ei,iV a.eb,iV a.eh,iV a.en] 77)::fs) (X':=X) (z':=z) (Ls:=[]) (fA:=R.fA) (fc:=R.fc) (fx:=R.fx) (sA:=R.sA) (sc:=R.sc) (tA:=R.tA) (tc:=R.tc) (rr:=(.blk b1 #[iV a.kd,iV a.nd,iV a.qu,iV a.at_,iV a.kp,iV a.ek,iV a.ep,iV a.ei,iV a.eb,iV a.eh,iV a.en] 77)::rr) hkn bR (by rw [←hrr]<;>rfl) G hn Rk NG.more (fun u hu=> .inl hu) (aQ hX).symm G.fly.symm mI;refine dO asH (TL hnn rfl bR hu (by have:=oP.fl;omega) (by have:=oP.aH;omega) hq aq3 (oP.lC nn hnn).nY uw hwn) ?_;rintro _ ace ⟨rfl,ag7⟩;refine ⟨_,rfl,?_⟩;have Ii:=Wd.uS (gs:=[.blk b1 #[iV a.kd,iV a.nd,iV a.qu,iV a.at_,iV a.kp,iV a.ek,iV a.ep,iV a.ei,iV a.eb,iV a.eh,iV a.en] 77]) ag7;refine zQ ?_;refine bN (l':=[]) trivial (gy (aY (rs:=[]) (vs:=[]) rfl trivial ?_));rw [Yq (by assumption) (by assumption) (by assumption) (by assumption) (by assumption) (by assumption) (by assumption) (by assumption) (by assumption) hqd];exact ⟨rfl,(Wd.less (gs:=[.blk b1 #[iV a.kd,iV a.nd,iV a.qu,iV a.at_,iV a.kp,iV a.ek,iV a.ep,iV a.ei,iV a.eb,iV a.eh,iV a.en] 77]) ag7)⟩
def sS:List Ac→Int
 | []=>0
 | a::l=>if fT a≠0 then fT a else sS l
def wS (l:List Ac):Int:=if 100000<l.length then 1 else sS l
section
variable {l:List Ac} {k:Nat} {x:Ac}
theorem aaj (h:l[k]? =some x) (hf:fT x=0):sS (l.drop k)=sS (l.drop (k+1)):=by rw [drop_cons h,sS,if_neg (fun e=>e hf)]
theorem U8 (h:l[k]? =some x) (hf: ¬ fT x=0):sS (l.drop k)=fT x:=by rw [drop_cons h,sS,if_pos hf]
theorem FB (h: ¬ 100000<l.length):wS l=sS l:=if_neg h
theorem OO (h:100000<l.length):wS l=1:=if_pos h
theorem Hu: ∀ {l:List Ac},sS l=0→ ∀ a∈l,fT a=0
 | [],_,a,ha=>by simp at ha
 | x::l,h,a,ha=>by
  rw [sS] at h
  split at h
  ·rename_i hx;exact absurd h hx
  rename_i hx
  rcases List.mem_cons.1 ha with rfl | ha
  ·exact Classical.not_not.1 hx
  exact Hu h a ha
theorem afM (h:wS l=0):l.length≤100000∧ ∀ a∈l,fT a=0:=by
 unfold wS at h
 split at h
 ·cases h
 exact ⟨by omega,Hu h⟩
theorem afN (h:l[k]? =some x):l.take (k+1)=l.take k++[x]:=by rw [List.take_add_one,h];rfl
theorem abW {m:Cl} {l:List Ac}:m.run (l++[x])=(m.run l).act x:=by unfold Cl.run;rw [List.foldl_append];rfl
end
def F3 (fl:Nat) (U:Nat→Bool) (d:Dir) (bv sv tv:Value) (calls:Nat):List Value:=
 [iV ((fl:Nat):Int),.bool (U 0),.bool (U 1),.bool (U 2),.bool (U 3),.bool (U 4),iV d.p0.node,iV d.p0.epoch,iV d.p1.node,iV d.p1.epoch,iV d.p2.node,iV d.p2.epoch,iV d.p3.node,iV d.p3.epoch,bv,sv,tv,iV ((calls:Nat):Int)]
def mO (fl:Nat) (U:Nat→Bool) (d:Dir) (bv sv tv:Value) (calls:Nat):Array Value:=(F3 fl U d bv sv tv calls).toArray
def afO:Array Value:= #[iV 0,.bool false,.bool false,.bool false,.bool false,.bool false,iV 0,iV 0,iV 0,iV 0,iV 0,iV 0,iV 0,iV 0,.slice none 0 0,.slice none 0 0,.slice none 0 0,iV 0]
section
variable {fl calls q k:Nat} {U:Nat→Bool} {d:Dir} {bv sv tv fv nv:Value} {sh:Nat→Nat→Int×Int}
theorem RN (h1:bv.oneCell'=true) (h2:sv.oneCell'=true) (h3:tv.oneCell'=true): ∀ u∈(mO fl U d bv sv tv calls).toList,u.oneCell'=true:=by
 intro u hu;simp only [mO,F3,List.mem_cons,List.not_mem_nil,or_false] at hu
 rcases hu with rfl | rfl | rfl | rfl | rfl | rfl | rfl | rfl | rfl | rfl | rfl | rfl | rfl | rfl | rfl | rfl | rfl | rfl<;>first | rfl | assumption
theorem RO {fl' calls' o:Nat} {U':Nat→Bool} {d':Dir} {bv' sv' tv':Value} {vs:List Value} (h:o+vs.length≤18) (he:(F3 fl U d bv sv tv calls).take o++vs++(F3 fl U d bv sv tv calls).drop (o+vs.length)=F3 fl' U' d' bv' sv' tv' calls'):
  bX (mO fl U d bv sv tv calls) o vs=mO fl' U' d' bv' sv' tv' calls':=Array.ext' (by rw [fV _ _ _ h];exact he)
theorem axN {fl':Nat}:bX (mO fl U d bv sv tv calls) 0 [iV ((fl':Nat):Int)]=mO fl' U d bv sv tv calls:=RO (Nat.le_of_ble_eq_true rfl) rfl
theorem axO {d':Dir}:bX (mO fl U d bv sv tv calls) 6 d'.cells=mO fl U d' bv sv tv calls:=RO (Nat.le_of_ble_eq_true rfl) rfl
theorem ag8 {x:Value}:bX (mO fl U d bv sv tv calls) 14 [x]=mO fl U d x sv tv calls:=RO (Nat.le_of_ble_eq_true rfl) rfl
theorem aq4 (hq:q<5) {v:Bool}:bX (mO fl U d bv sv tv calls) (1+q*1) [.bool v]=mO fl (upd U q v) d bv sv tv calls:=by
 rcases five hq with rfl | rfl | rfl | rfl | rfl<;>exact RO (Nat.le_of_ble_eq_true rfl) rfl
theorem afP: ∀ (j:Nat) (u:Value),(mO 0 (fun _=>false) (⟨⟨0,0⟩,⟨0,0⟩,⟨0,0⟩,⟨0,0⟩⟩:Dir) (.slice none 0 0) sv tv calls).toList[j]? =some u→(bL nv d fv sh sv tv calls)[50+j]? =some u:=by
 intro j u h;have hj:j<18:=(List.getElem?_eq_some_iff.1 h).1;have h2:j=0∨j=1∨j=2∨j=3∨j=4∨j=5∨j=6∨j=7∨j=8∨j=9∨j=10∨j=11∨j=12∨j=13∨j=14∨j=15∨j=16∨j=17:=by omega
 rcases h2 with rfl | rfl | rfl | rfl | rfl | rfl | rfl | rfl | rfl | rfl | rfl | rfl | rfl | rfl | rfl | rfl | rfl | rfl<;>exact h
end
def jN (p:Nat×List BX):List Value:=[.slice (aD p.1 0) 4 4]
structure P1 (L:List Fact) (m:Cl) (j:Nat) (p:Nat×List BX):Prop where
 rd:Ro L 6 (aD p.1 0) 4 (p.2.flatMap BX.cells)
 bm:p.2.map BX.b=vB (m.av j).view
 bo: ∀ y∈p.2,zi L y
theorem P1.mono {L L':List Fact} {m:Cl} {j:Nat} {p:Nat×List BX} (h:P1 L m j p) (hl: ∀ f∈L,f∈L'):P1 L' m j p:=⟨h.rd.mono hl,h.bm,fun y hy=>(h.bo y hy).mono hl⟩
def aov (L:List Fact) (m:Cl) (row:Array Value):Prop:= ∃ (U:Nat→Bool) (BA:Option Addr) (bc:Nat) (sA:Option Addr) (sc:Nat) (tA:Option Addr) (tc:Nat) (ps:List (Nat×List BX)),row=mO m.fly.length U m.off (.slice BA 5 bc) (.slice sA m.aH.length sc) (.slice tA m.aM.length tc) m.calls∧(∀ j,j<5→U j=(m.av j).up)∧ps.length=5∧
 Ro L 1 BA 5 (ps.flatMap jN)∧Ro L 14 sA m.aH.length (m.aH.flatMap eT.cells)∧Ro L 7 tA m.aM.length (m.aM.flatMap fK.cells)∧ ∀ j p,ps[j]? =some p→P1 L m j p
section
variable {K:CK} {R:CX} {B n k:Nat} {w0 w:World} {fs gs N E L LC:List Fact} {m:Cl} {H:List LX} {X:Nd} {z:NX} {ps:List (Nat×List BX)} {p:Nat×List BX} {bs:List BX} {bB:Nat} {U:Nat→Bool}
theorem Wd.top (h:Wd K B w0 w fs m H):St B w0 w fs:=by
 obtain ⟨R,_,S⟩:=h;exact S.sub (List.sublist_append_left _ _)
open Classical in
theorem St.shut (hn:n<5) (S:St B w0 w (jD K n (m.av n) (R.nx n)++(sO K R m++(gs++eZ K R m fs n)))):St B w0 w (gs++(fs++j6 K R m)):=by
 refine S.perm (List.perm_iff_count.2 fun a=>?_);have h1:=List.perm_iff_count.1 (tL (fun j=>jD K j (m.av j) (R.nx j)) hn) a;unfold eZ j6 kK;simp only [List.count_append] at h1⊢;omega
open Classical in
theorem St.ag9 (hn:n<5) (S:St B w0 w (jD K n (m.av n) (R.nx n)++(sO K R m++(gs++((N++(fs++(kK K R m n++R.L)))++E))))):St B w0 w (gs++((E++N)++(fs++j6 K R m))):=by
 refine S.perm (List.perm_iff_count.2 fun a=>?_);have h1:=List.perm_iff_count.1 (tL (fun j=>jD K j (m.av j) (R.nx j)) hn) a;unfold j6 kK;simp only [List.count_append] at h1⊢;omega
open Classical in
theorem St.axP (hn:n<5) (S:St B w0 w (gs++(N++(fs++j6 K R m)))):St B w0 w (jD K n (m.av n) (R.nx n)++(sO K R m++(gs++(N++(fs++(kK K R m n++R.L)))))):=by
 refine S.perm (List.perm_iff_count.2 fun a=>?_);have h1:=List.perm_iff_count.1 (tL (fun j=>jD K j (m.av j) (R.nx j)) hn) a;unfold j6 kK;simp only [List.count_append] at h1⊢;omega
open Classical in
theorem St.aq5 (S:St B w0 w (gs++(N++(fs++LC)))):St B w0 w ((gs++(N++LC))++fs):=by
 refine S.perm (List.perm_iff_count.2 fun a=>?_);simp only [List.count_append];omega
theorem KH (hl:ps.length=k) (h: ∀ j p,ps[j]? =some p→P1 L m j p) (hn:P1 L m k p): ∀ j q,(ps++[p])[j]? =some q→P1 L m j q:=fun j q hq=>by
 by_cases e:j<ps.length
 ·rw [List.getElem?_append_left e] at hq;exact h j q hq
 rw [List.getElem?_append_right (by omega)] at hq;have:j-ps.length=0:=by
  have:=(List.getElem?_eq_some_iff.1 hq).1;rw [List.length_singleton] at this;omega
 rw [this] at hq
 cases hq;rw [show j=k by omega];exact hn
theorem alq (hk:k<5) (hz:R.nx k=z):Fact.own 42 6 (.slice (aD z.bb 0) 4 4) 4 (z.bx.flatMap BX.cells)∈j6 K R m:=by
 subst hz;refine List.mem_append_right _ (List.mem_append_left _ (List.mem_flatMap.2 ⟨k,List.mem_range.2 hk,?_⟩));exact List.mem_cons_of_mem _ (List.mem_cons_self ..)
theorem afQ (h:dz K R.L k (m.av k) (R.nx k)) (hX:m.av k=X) (hz:R.nx k=z) (hu:X.up=true) (hk:k<5):P1 (N++j6 K R m) m k (z.bb,z.bx):=by
 have ho:=alq (K:=K) (m:=m) hk hz;subst hX;subst hz;refine ⟨Ro.own (List.mem_append_right _ ho),?_,fun y hy=>(h.Ox y hy).mono fun f hf=>List.mem_append_right _ (List.mem_append_right _ (List.mem_append_right _ hf))⟩;rw [afz hu];exact h.MG
theorem afR (hm:bs.map BX.b=vB (bQ X.data X.syn)) (hc: ∀ y∈bs,y.b.evs.length≤y.c) (hX:m.av k=X) (hu:X.up=false):P1 ((Fact.own 42 6 (.slice (aD bB 0) 4 4) 4 (bs.flatMap BX.cells)::(dU bs++N))++LC) m k (bB,bs):=by
 subst hX;refine ⟨Ro.own (List.mem_append_left _ (List.mem_cons_self ..)),?_,fun y hy=>(KE hc y hy).mono fun f hf=>List.mem_append_left _ (List.mem_cons_of_mem _ (List.mem_append_left _ hf))⟩;unfold Nd.view;rw [if_neg (by rw [hu];simp)];exact hm
theorem OP (h: ∀ j,j<k→U j=(m.av j).up) (hX:m.av k=X): ∀ j,j<k+1→upd U k X.up j=(m.av j).up:=fun j hj=>by
 by_cases e:j=k
 ·rw [e,upd_same,hX]
 rw [upd_ne e];exact h j (by omega)
theorem afS {OA:Option Addr} {oc:Nat} (G:Good K R m H) (hl:ps.length=5) (hU: ∀ j,j<5→U j=(m.av j).up) (hL:Fact.own 43 1 (.slice OA ps.length oc) ps.length (ps.flatMap jN)∈L) (hC: ∀ f∈j6 K R m,f∈L) (hp: ∀ j p,ps[j]? =some p→P1 L m j p):
  aov L m (mO R.fx.length U m.off (.slice OA ps.length oc) (.slice R.sA m.aH.length R.sc) (.slice R.tA m.aM.length R.tc) m.calls):=by
 rw [hl] at hL⊢;have hf:R.fx.length=m.fly.length:=by rw [←G.fly,List.length_map]
 have h1:Fact.own 85 14 (.slice R.sA m.aH.length R.sc) m.aH.length (m.aH.flatMap eT.cells)∈j6 K R m:=List.mem_append_left _ (List.mem_cons_of_mem _ (List.mem_cons_of_mem _ (List.mem_cons_self ..)));have h2:Fact.own 81 7 (.slice R.tA m.aM.length R.tc) m.aM.length (m.aM.flatMap fK.cells)∈j6 K R m:=List.mem_append_left _ (List.mem_cons_of_mem _ (List.mem_cons_of_mem _ (List.mem_cons_of_mem _ (List.mem_cons_self ..))));exact ⟨U,OA,oc,R.sA,R.sc,R.tA,R.tc,ps,by rw [hf],hU,hl,Ro.own hL,Ro.own (hC _ h1),Ro.own (hC _ h2),hp⟩
end
theorem KI {B:Nat} {w0 w:World} {fs:List Fact} {A:Option Addr} {c:Nat} {l:List Ac} (S:St B w0 w fs) (hu:Uk B w0) (RP:Ro fs 11 A l.length (l.flatMap Ac.cells)) (hb:l.length*88≤reachBytes):
    Calls Tryz.prog 31 #[.slice A l.length c] w (fun e w'=>(wS l≠0→e= .returned (.tuple #[.agg afO,iV (wS l)])∧St B w0 w' fs)∧(wS l=0→ ∃ row L,e= .returned (.tuple #[.agg row,iV 0])∧aov L (Om.run l) row∧St B w0 w' (L++fs))):=by
 have hb2:=hb;unfold reachBytes at hb2;refine fE 99 Tryz.func31 ?_;refine cw [0] ?_;iterate 2 refine zQ ?_
 refine eU S ab4 ?_;intro b1 w2 S3;iterate 8 refine zQ ?_
 by_cases h4:100000< ((l.length:Nat):Int)
 ·iterate 7 refine zQ ?_
  refine sa 0 S3 Cr ?_;intro w5 S6;iterate 6 refine zQ ?_
  have S7:=S6.aR [0];have hsf:wS l=1:=OO (by omega);refine ⟨fun _=>⟨by rw [hsf];rfl,S7⟩,fun h=>?_⟩;rw [hsf] at h;exact absurd h (by first | decide | assumption)
 iterate 15 refine zQ ?_
 refine fH (X:=Nat) (fun xv=>[(0,.slice A l.length c),(2,pV b1 0),(3,iV 0),(18,.slice A l.length c),(19,iV ((l.length:Nat):Int)),(20,iV ((xv:Nat):Int))]) (fun xv wr=>(xv≤l.length)∧(sS l=sS (l.drop xv))∧St B w0 wr ((.blk b1 #[iV 0,.bool false,.bool false,.bool false,.bool false,.bool false,iV 0,iV 0,iV 0,iV 0,iV 0,iV 0,iV 0,iV 0,.slice none 0 0,.slice none 0 0,.slice none 0 0,iV 0] 38)::fs)) (fun xv=>l.length-xv) (0) ?_ ?_ ?_
 ·exact ⟨Nat.zero_le _,rfl,S3⟩
 ·exact ⟨rfl,rfl,rfl,rfl,rfl,rfl,trivial⟩
 rintro k1 w8 ⟨l8,Nf,S9⟩
 try dsimp only at l8 Nf S9
 refine bq (l':=[(0,.slice A l.length c),(2,pV b1 0),(3,iV 0),(18,.slice A l.length c),(19,iV ((l.length:Nat):Int)),(20,iV ((k1:Nat):Int))]) ⟨rfl,rfl,rfl,rfl,rfl,rfl,trivial⟩ (aW (aO ?_));by_cases h12:((k1:Nat):Int)< ((l.length:Nat):Int)
 ·iterate 10 refine zQ ?_
  obtain ⟨x,hx⟩: ∃ x,l[k1]? =some x:=⟨_,List.getElem?_eq_getElem (by omega)⟩;obtain ⟨ab_,ao_,hAb⟩:=La RP S9 (memT 1 rfl dG) (by omega);refine zQ ?_;refine vv (v:=pV ab_ (ao_+k1*11)) (bP rfl rfl rfl (mJ k1 hAb Tryz.underlying26 jA (by omega) (by omega))) ?_;refine vv (v:= .agg #[iV x.kd,iV x.nd,iV x.qu,iV x.at_,iV x.kp,iV x.ek,iV x.ep,iV x.ei,iV x.eb,iV x.eh,iV x.en]) (aj rfl rfl (aG (cs:=Ac.cells x) Tryz.underlying77 rfl jA rfl (fun j u hu=>by rw [Nat.add_assoc];exact Fx RP hAb S9 (memT 1 rfl dG) (bS (enc:=Ac.cells) (sz:=11) (k:=k1) (fun _=>rfl) hx hu)))) ?_;refine eU S9 ab5 ?_;intro b13 FT gH;refine sa 0 gH jA ?_;intro w16 kT;iterate 5 refine zQ ?_
  refine cab aso kT (Mf x _) ?_;intro L8 lg;iterate 6 refine zQ ?_
  by_cases h21:fT x=0
  ·iterate 8 refine zQ ?_
   refine vv (v:=iV ((k1+1:Nat):Int)) jv ?_;iterate 2 refine zQ ?_
   have ig:=lg.aR [0];refine bY (k1+1) ?_ ⟨rfl,rfl,rfl,rfl,rfl,rfl,trivial⟩ (by first | omega | (dsimp only;omega));exact ⟨(by omega),(by rw [Nf];exact aaj hx h21),ig⟩
  iterate 8 refine zQ ?_
  refine sa 1 lg Cr ?_;intro JZ jB;iterate 10 refine zQ ?_
  have iX:=jB.aR [1,0];have hsf:wS l=fT x:=by rw [FB (by omega),Nf];exact U8 hx h21
  refine ⟨fun _=>⟨by rw [hsf];rfl,iX⟩,fun h=>?_⟩;rw [hsf] at h;exact absurd h (by first | decide | assumption)
 iterate 12 refine zQ ?_
 have aow:wS l=0:=by rw [FB (by omega),Nf,List.drop_eq_nil_of_le (by omega)];rfl
 obtain ⟨azm,hall⟩:=afM aow;refine dO asq (Qf S9 hu) ?_;rintro _ JV ⟨K,rfl,axQ⟩;refine ⟨_,rfl,?_⟩;have Y1:Wd K B w0 JV ((.blk b1 #[iV 0,.bool false,.bool false,.bool false,.bool false,.bool false,iV 0,iV 0,iV 0,iV 0,iV 0,iV 0,iV 0,iV 0,.slice none 0 0,.slice none 0 0,.slice none 0 0,iV 0] 38)::fs) Om []:=axQ;have qM:=Wd.top Y1;obtain ⟨kw,bR⟩: ∃ b,K.wb=b:=⟨_,rfl⟩;obtain ⟨n,hn0⟩: ∃ n,n=0:=⟨_,rfl⟩;have hn:n<5:=by omega
 obtain ⟨kn,hkn⟩: ∃ b,K.nb n=b:=⟨_,rfl⟩;rw [bR];iterate 12 refine zQ ?_
 refine fH (X:=Nat×Cl) (fun xv=>[(2,pV b1 0),(3,iV 0),(7,pV kw 0),(32,.slice A l.length c),(33,iV ((l.length:Nat):Int)),(34,iV ((xv.1:Nat):Int))]) (fun xv wr=>(Wd K B w0 wr ((.blk b1 #[iV 0,.bool false,.bool false,.bool false,.bool false,.bool false,iV 0,iV 0,iV 0,iV 0,iV 0,iV 0,iV 0,iV 0,.slice none 0 0,.slice none 0 0,.slice none 0 0,iV 0] 38)::fs) xv.2 [])∧(xv.2=Om.run (l.take xv.1))∧(Bs xv.2 xv.1)∧(ShN xv.2)∧(xv.1≤l.length)∧St B w0 wr ((.blk b1 #[iV 0,.bool false,.bool false,.bool false,.bool false,.bool false,iV 0,iV 0,iV 0,iV 0,iV 0,iV 0,iV 0,iV 0,.slice none 0 0,.slice none 0 0,.slice none 0 0,iV 0] 38)::fs)) (fun xv=>l.length-xv.1) (0,Om) ?_ ?_ ?_
 ·exact ⟨Y1,rfl,avJ,fun _ _=>Int.le_refl _,Nat.zero_le _,Wd.top Y1⟩
 ·exact ⟨rfl,rfl,rfl,rfl,rfl,rfl,trivial⟩
 rintro ⟨k2,mm⟩ V7 ⟨aiL,E9,vK,Nk,aiA,tF⟩
 try dsimp only at aiL E9 vK Nk aiA tF
 refine bq (l':=[(2,pV b1 0),(3,iV 0),(7,pV kw 0),(32,.slice A l.length c),(33,iV ((l.length:Nat):Int)),(34,iV ((k2:Nat):Int))]) ⟨rfl,rfl,rfl,rfl,rfl,rfl,trivial⟩ ?_;obtain ⟨R3,G3,QH⟩:=aiL.open hn;have OM:=G3.lC n hn;obtain ⟨X3,zq⟩: ∃ X,mm.av n=X:=⟨_,rfl⟩;obtain ⟨z3,hz3⟩: ∃ z,R3.nx n=z:=⟨_,rfl⟩;rw [zq,hz3] at QH OM;obtain ⟨U5,Fz⟩: ∃ r,eZ K R3 mm fs n=r:=⟨_,rfl⟩;have aox: ∀ f∈fs,f∈U5:=fun f hf=>Fz▸List.mem_append_left _ hf
 have nL:St B w0 V7 ((.blk kn (aU n X3.up (.slice z3.tA X3.data.length z3.tc) X3.syn (.slice (aD z3.bb 0) 4 4) X3.hints X3.sure (.slice z3.iA z3.ix.length z3.ic) (z3.pv) X3.turn) 129)::(.own 42 6 (.slice (aD z3.bb 0) 4 4) 4 ((z3.bx).flatMap BX.cells))::(.off 169 23 z3.iA z3.ix.length z3.ic ((z3.ix).flatMap LX.cells))::(.blk kw (bL (.slice R3.nA 5 R3.nc) mm.off (.slice R3.fA R3.fx.length R3.fc) mm.shown (.slice R3.sA mm.aH.length R3.sc) (.slice R3.tA mm.aM.length R3.tc) mm.calls) 121)::(.own 169 23 (.slice R3.fA R3.fx.length R3.fc) R3.fx.length ((R3.fx).flatMap LX.cells))::(.own 85 14 (.slice R3.sA mm.aH.length R3.sc) mm.aH.length ((mm.aH).flatMap eT.cells))::(.own 81 7 (.slice R3.tA mm.aM.length R3.tc) mm.aM.length ((mm.aM).flatMap fK.cells))::(.blk b1 #[iV 0,.bool false,.bool false,.bool false,.bool false,.bool false,iV 0,iV 0,iV 0,iV 0,iV 0,iV 0,iV 0,iV 0,.slice none 0 0,.slice none 0 0,.slice none 0 0,iV 0] 38)::U5):=by rw [←Fz];subst hkn;subst bR;exact QH
 clear QH;iterate 2 refine zQ ?_
 by_cases h37:((k2:Nat):Int)< ((l.length:Nat):Int)
 ·iterate 10 refine zQ ?_
  obtain ⟨x,hx⟩: ∃ x,l[k2]? =some x:=⟨_,List.getElem?_eq_getElem (by omega)⟩;obtain ⟨ab_,ao_,hAb⟩:=La RP nL (memT 8 rfl aox) (by omega);have hxa:=ap8 (hall x (List.mem_of_getElem? hx));refine zQ ?_;refine vv (v:=pV ab_ (ao_+k2*11)) (bP rfl rfl rfl (mJ k2 hAb Tryz.underlying26 jA (by omega) (by omega))) ?_;refine vv (v:= .agg #[iV x.kd,iV x.nd,iV x.qu,iV x.at_,iV x.kp,iV x.ek,iV x.ep,iV x.ei,iV x.eb,iV x.eh,iV x.en]) (aj rfl rfl (aG (cs:=Ac.cells x) Tryz.underlying77 rfl jA rfl (fun j u hu=>by rw [Nat.add_assoc];exact Fx RP hAb nL (memT 8 rfl aox) (bS (enc:=Ac.cells) (sz:=11) (k:=k2) (fun _=>rfl) hx hu)))) ?_;refine eU nL ab5 ?_;intro b38 w39 vV;refine sa 0 vV jA ?_;intro Zt tC;iterate 5 refine zQ ?_
  have tu:=tC.aR [0];have axR:=Wd.dw (m:=mm) (m':=mm) (H:=[]) (H':=[]) (fs:=(.blk b1 #[iV 0,.bool false,.bool false,.bool false,.bool false,.bool false,iV 0,iV 0,iV 0,iV 0,iV 0,iV 0,iV 0,iV 0,.slice none 0 0,.slice none 0 0,.slice none 0 0,iV 0] 38)::fs) (X':=X3) (z':=z3) (Ls:=[]) (fA:=R3.fA) (fc:=R3.fc) (fx:=R3.fx) (sA:=R3.sA) (sc:=R3.sc) (tA:=R3.tA) (tc:=R3.tc) (rr:=(.blk b1 #[iV 0,.bool false,.bool false,.bool false,.bool false,.bool false,iV 0,iV 0,iV 0,iV 0,iV 0,iV 0,iV 0,iV 0,.slice none 0 0,.slice none 0 0,.slice none 0 0,iV 0] 38)::U5) hkn bR (by rw [←Fz];rfl) G3 hn tu OM.more (fun u hu=> .inl hu) (aQ zq).symm G3.fly.symm mI;refine dO asr (abV (n:=x.nd.toNat) (q:=x.qu.toNat) (by have:=hxa.nd;omega) (by have:=hxa.qu;omega) (by have:=hxa.nd;omega) (by have:=hxa.qu;omega) rfl bR hu axR vK (by omega) hxa Nk) ?_;rintro _ UJ ⟨rfl,aiM⟩;refine ⟨_,rfl,?_⟩;have uy:=Wd.top aiM;iterate 4 refine zQ ?_
  refine vv (v:=iV ((k2+1:Nat):Int)) jv ?_;iterate 2 refine zQ ?_
  refine bY (k2+1,mm.act x) ?_ ⟨rfl,rfl,rfl,rfl,rfl,rfl,trivial⟩ (by first | omega | (dsimp only;omega));exact ⟨aiM,(by dsimp only;rw [afN hx,abW,←E9]),(by dsimp only;exact ak7 vK hxa (by omega)),(by dsimp only;exact ShN.act Nk),(by dsimp only;omega),(Wd.top aiM)⟩
 iterate 11 refine zQ ?_
 have hmm:mm=Om.run l:=by rw [E9,List.take_of_length_le (by omega)]
 have oP:=vK;obtain ⟨R,G,S0⟩:=aiL.open hn;have NG:=G.lC n hn;obtain ⟨X,hX⟩: ∃ X,mm.av n=X:=⟨_,rfl⟩;obtain ⟨z,hz⟩: ∃ z,R.nx n=z:=⟨_,rfl⟩;rw [hX,hz] at S0 NG;obtain ⟨rr,hrr⟩: ∃ r,eZ K R mm fs n=r:=⟨_,rfl⟩;have hfr: ∀ f∈fs,f∈rr:=fun f hf=>hrr▸List.mem_append_left _ hf
 have qX:St B w0 V7 ((.blk kn (aU n X.up (.slice z.tA X.data.length z.tc) X.syn (.slice (aD z.bb 0) 4 4) X.hints X.sure (.slice z.iA z.ix.length z.ic) (z.pv) X.turn) 129)::(.own 42 6 (.slice (aD z.bb 0) 4 4) 4 ((z.bx).flatMap BX.cells))::(.off 169 23 z.iA z.ix.length z.ic ((z.ix).flatMap LX.cells))::(.blk kw (bL (.slice R.nA 5 R.nc) mm.off (.slice R.fA R.fx.length R.fc) mm.shown (.slice R.sA mm.aH.length R.sc) (.slice R.tA mm.aM.length R.tc) mm.calls) 121)::(.own 169 23 (.slice R.fA R.fx.length R.fc) R.fx.length ((R.fx).flatMap LX.cells))::(.own 85 14 (.slice R.sA mm.aH.length R.sc) mm.aH.length ((mm.aH).flatMap eT.cells))::(.own 81 7 (.slice R.tA mm.aM.length R.tc) mm.aM.length ((mm.aM).flatMap fK.cells))::(.blk b1 #[iV 0,.bool false,.bool false,.bool false,.bool false,.bool false,iV 0,iV 0,iV 0,iV 0,iV 0,iV 0,iV 0,iV 0,.slice none 0 0,.slice none 0 0,.slice none 0 0,iV 0] 38)::rr):=by rw [←hrr];subst hkn;subst bR;exact S0
 clear S0;have hcl:=oP.calls;have hfl:R.fx.length=mm.fly.length:=by rw [←G.fly,List.length_map]
 iterate 4 refine zQ ?_
 refine vv (v:= .agg (mO 0 (fun _=>false) (⟨⟨0,0⟩,⟨0,0⟩,⟨0,0⟩,⟨0,0⟩⟩:Dir) (.slice none 0 0) (.slice R.sA mm.aH.length R.sc) (.slice R.tA mm.aM.length R.tc) mm.calls)) (aj rfl rfl (aG (cs:=(mO 0 (fun _=>false) (⟨⟨0,0⟩,⟨0,0⟩,⟨0,0⟩,⟨0,0⟩⟩:Dir) (.slice none 0 0) (.slice R.sA mm.aH.length R.sc) (.slice R.tA mm.aM.length R.tc) mm.calls).toList) Tryz.underlying38 rfl Cr rfl (St.rg 3 qX rfl afP))) ?_;refine eU qX ab4 ?_;intro IZ Qw sw;refine stA 0 sw Cr ?_ (h1:=by exact RN (fl:=0) (U:=(fun _=>false)) (d:=(⟨⟨0,0⟩,⟨0,0⟩,⟨0,0⟩,⟨0,0⟩⟩:Dir)) (bv:= .slice none 0 0) (sv:= .slice R.sA mm.aH.length R.sc) (tv:= .slice R.tA mm.aM.length R.tc) (calls:=mm.calls) rfl rfl rfl);intro w52 vG;iterate 2 refine zQ ?_
 have jw:=vG.dM [4,1];refine zQ ?_;have xk:=jw.drew;refine aN 13 xk [0] ?_;iterate 3 refine aF ?_
 refine ak (v:= .slice R.fA R.fx.length R.fc) 3 rfl (St.del 0 xk) (fun _ VX=>(aj rfl rfl (aA Tryz.underlying115 rfl (St.cl 0 VX rfl Ni)))) ?_;iterate 4 refine aF ?_
 refine ak (v:= .agg ((mm.off.cells).toArray)) 8 rfl (St.del 0 xk) (fun _ VP=>(aj rfl rfl (aG (cs:=(mm.off.cells)) Tryz.underlying33 rfl nS rfl (St.rg 0 VP rfl (vN))))) ?_;refine aF ?_;refine aS 10 ?_;refine snz 10 rfl 0 xk fM ?_ (hs:=by exact axN);intro NP oN;iterate 2 refine aF ?_
 refine aS 12 ?_;refine snz 12 rfl 0 oN nS ?_ (h1:=um _) (hs:=by exact axO);intro ZN lu;iterate 2 refine aF ?_
 iterate 3 refine zQ ?_
 obtain ⟨ab,ao,oO⟩:=zn G.arr lu (memT 9 rfl fun f hf=>hrr▸List.mem_append_right _ (List.mem_append_right _ hf));iterate 4 refine zQ ?_
 refine vv (v:= .slice R.nA 5 R.nc) (aj rfl rfl (aA Tryz.underlying114 rfl (St.cl 1 lu rfl xP))) ?_;iterate 5 refine zQ ?_
 have qh:=lu.dM [7,7,7,4,7,7,7];have Cz:=St.shut (gs:=[.blk IZ (mO R.fx.length (fun _=>false) mm.off (.slice none 0 0) (.slice R.sA mm.aH.length R.sc) (.slice R.tA mm.aM.length R.tc) mm.calls) 38,.blk b1 #[iV 0,.bool false,.bool false,.bool false,.bool false,.bool false,iV 0,iV 0,iV 0,iV 0,iV 0,iV 0,iV 0,iV 0,.slice none 0 0,.slice none 0 0,.slice none 0 0,iV 0] 38]) hn (by subst hkn;subst bR;rw [hX,hz,show eZ K R mm fs n=rr from hrr];exact qh);have qL:=Cz.nil 43 1;obtain ⟨LC,hLC⟩: ∃ f,f=j6 K R mm:=⟨_,rfl⟩;obtain ⟨LF,hLF⟩: ∃ f,f=fs++LC:=⟨_,rfl⟩;rw [←hLC,←hLF] at qL;refine fH (X:=Nat×(Nat→Bool)×(List (Nat×List BX))×(Option Addr)×Nat×(List Fact)) (fun xv=>[(2,pV b1 0),(3,iV 0),(10,pV IZ 0),(60,.slice R.nA 5 R.nc),(61,iV 5),(62,iV ((xv.1:Nat):Int))]) (fun xv wr=>(xv.1≤5)∧(xv.2.2.1.length=xv.1)∧(∀ j p,xv.2.2.1[j]? =some p→P1 (xv.2.2.2.2.2++LC) mm j p)∧(∀ j,j<xv.1→xv.2.1 j=(mm.av j).up)∧St B w0 wr ((.own 43 1 (.slice xv.2.2.2.1 xv.2.2.1.length xv.2.2.2.2.1) xv.2.2.1.length ((xv.2.2.1).flatMap jN))::(.blk IZ (mO R.fx.length xv.2.1 mm.off (.slice xv.2.2.2.1 xv.2.2.1.length xv.2.2.2.2.1) (.slice R.sA mm.aH.length R.sc) (.slice R.tA mm.aM.length R.tc) mm.calls) 38)::(.blk b1 #[iV 0,.bool false,.bool false,.bool false,.bool false,.bool false,iV 0,iV 0,iV 0,iV 0,iV 0,iV 0,iV 0,iV 0,.slice none 0 0,.slice none 0 0,.slice none 0 0,iV 0] 38)::(xv.2.2.2.2.2++LF))) (fun xv=>5-xv.1) (0,(fun _=>false),[],none,0,[]) ?_ ?_ ?_
 ·exact ⟨Nat.zero_le _,rfl,(fun j p hp=>by simp at hp),(fun j hj=>absurd hj (Nat.not_lt_zero _)),qL⟩
 ·exact ⟨rfl,rfl,rfl,rfl,rfl,rfl,trivial⟩
 rintro ⟨k,U9,ps,OA,oc,N9⟩ UC ⟨aoy,Yu,acT,acU,vH⟩
 try dsimp only at aoy Yu acT acU vH
 refine bq (l':=[(2,pV b1 0),(3,iV 0),(10,pV IZ 0),(60,.slice R.nA 5 R.nc),(61,iV 5),(62,iV ((k:Nat):Int))]) ⟨rfl,rfl,rfl,rfl,rfl,rfl,trivial⟩ ?_;have hk5:k≤5:=aoy;iterate 2 refine zQ ?_
 by_cases h80:((k:Nat):Int)<5
 ·iterate 10 refine zQ ?_
  have hk4:k<5:=by omega
  have S9:=St.axP (n:=k) (gs:=[.own 43 1 (.slice OA ps.length oc) ps.length ((ps).flatMap jN),.blk IZ (mO R.fx.length U9 mm.off (.slice OA ps.length oc) (.slice R.sA mm.aH.length R.sc) (.slice R.tA mm.aM.length R.tc) mm.calls) 38,.blk b1 #[iV 0,.bool false,.bool false,.bool false,.bool false,.bool false,iV 0,iV 0,iV 0,iV 0,iV 0,iV 0,iV 0,iV 0,.slice none 0 0,.slice none 0 0,.slice none 0 0,iV 0] 38]) (N:=N9) (fs:=fs) hk4 (by rw [←hLC,←hLF];exact vH);obtain ⟨X3,zq⟩: ∃ X,mm.av k=X:=⟨_,rfl⟩;obtain ⟨z3,hz3⟩: ∃ z,R.nx k=z:=⟨_,rfl⟩;obtain ⟨knk,acV⟩: ∃ b,K.nb k=b:=⟨_,rfl⟩;obtain ⟨rk,Jw⟩: ∃ r,fs++(kK K R mm k++R.L)=r:=⟨_,rfl⟩;have OM:=G.lC k hk4;rw [zq,hz3] at S9 OM;rw [Jw] at S9;have hLk: ∀ f∈R.L,f∈rk:=fun f hf=>Jw▸List.mem_append_right _ (List.mem_append_right _ hf)
  have pF:St B w0 UC ((.blk knk (aU k X3.up (.slice z3.tA X3.data.length z3.tc) X3.syn (.slice (aD z3.bb 0) 4 4) X3.hints X3.sure (.slice z3.iA z3.ix.length z3.ic) (z3.pv) X3.turn) 129)::(.own 42 6 (.slice (aD z3.bb 0) 4 4) 4 ((z3.bx).flatMap BX.cells))::(.off 169 23 z3.iA z3.ix.length z3.ic ((z3.ix).flatMap LX.cells))::(.blk kw (bL (.slice R.nA 5 R.nc) mm.off (.slice R.fA R.fx.length R.fc) mm.shown (.slice R.sA mm.aH.length R.sc) (.slice R.tA mm.aM.length R.tc) mm.calls) 121)::(.own 169 23 (.slice R.fA R.fx.length R.fc) R.fx.length ((R.fx).flatMap LX.cells))::(.own 85 14 (.slice R.sA mm.aH.length R.sc) mm.aH.length ((mm.aH).flatMap eT.cells))::(.own 81 7 (.slice R.tA mm.aM.length R.tc) mm.aM.length ((mm.aM).flatMap fK.cells))::(.own 43 1 (.slice OA ps.length oc) ps.length ((ps).flatMap jN))::(.blk IZ (mO R.fx.length U9 mm.off (.slice OA ps.length oc) (.slice R.sA mm.aH.length R.sc) (.slice R.tA mm.aM.length R.tc) mm.calls) 38)::(.blk b1 #[iV 0,.bool false,.bool false,.bool false,.bool false,.bool false,iV 0,iV 0,iV 0,iV 0,iV 0,iV 0,iV 0,iV 0,.slice none 0 0,.slice none 0 0,.slice none 0 0,iV 0] 38)::(N9++rk)):=by subst acV;subst bR;exact S9
  clear S9;iterate 2 refine zQ ?_
  refine vv (v:=pV ab (ao+k*1)) (bP rfl rfl rfl (mJ k oO Tryz.underlying114 Zg (by omega) (by omega))) ?_;refine vv (v:=pV knk 0) (aj rfl rfl (aA Tryz.underlying122 rfl (acV▸uq (oO▸G.arr) hk4 pF (memT 10 rfl fun f hf=>List.mem_append_right _ (hLk f hf))))) ?_;iterate 12 refine zQ ?_
  refine vv (v:=pV IZ (1+k*1)) (bP rfl rfl rfl (eu k Tryz.underlying28 EM rfl hk4)) ?_;refine EA (cs:= #[.bool X3.up]) (row':=mO R.fx.length (upd U9 k X3.up) mm.off (.slice OA ps.length oc) (.slice R.sA mm.aH.length R.sc) (.slice R.tA mm.aM.length R.tc) mm.calls) (fs':=(_::_::_::_::_::_::_::_::(.blk IZ (mO R.fx.length (upd U9 k X3.up) mm.off (.slice OA ps.length oc) (.slice R.sA mm.aH.length R.sc) (.slice R.tA mm.aM.length R.tc) mm.calls) 38)::_::(N9++rk))) 8 pF (wn rfl) rfl rfl rfl rfl rfl rfl EM rfl (bZ rfl) (by show 1+k*1+1≤18;omega) (aq4 hk4 (v:=X3.up)) rfl ?_;intro w82 uj;iterate 13 refine zQ ?_
  rcases hup:X3.up with _ | _
  ·iterate 4 refine zQ ?_
   refine vv (v:= .bool false) (KC hup (aj rfl rfl (aA Tryz.underlying4 rfl (St.cl 0 uj rfl rfl)))) ?_;iterate 8 refine zQ ?_
   refine vv (aj rfl rfl (aG (cs:=[.slice z3.tA X3.data.length z3.tc,iV X3.syn]) Tryz.underlying125 rfl dX rfl (St.rg 0 uj rfl (qy)))) ?_;have hrd:=(oP.lC k hk4).MR;rw [zq] at hrd;refine dO alG (Eu z3.tA z3.tc X3.data X3.syn _ (OM.vO.rd uj (memT 10 rfl fun f hf=>List.mem_append_right _ (hLk f hf))) hrd.1 hrd.2.2.1) ?_;rintro _ w87 ⟨A84,c85,bB,bs,hbm,hbl,hbc,rfl,T86⟩;refine ⟨_,rfl,?_⟩;have IV:=uj.ext T86 (by simp [Gu,Fact.Ew]);have FQ:St B w0 w87 ((.own 42 6 (.slice (aD bB 0) 4 4) 4 ((bs).flatMap BX.cells))::(.bG 1 A84 ((jf X3.data X3.syn).1.length) (byteCells ((jf X3.data X3.syn).1)))::(.blk knk (aU k X3.up (.slice z3.tA X3.data.length z3.tc) X3.syn (.slice (aD z3.bb 0) 4 4) X3.hints X3.sure (.slice z3.iA z3.ix.length z3.ic) (z3.pv) X3.turn) 129)::(.own 42 6 (.slice (aD z3.bb 0) 4 4) 4 ((z3.bx).flatMap BX.cells))::(.off 169 23 z3.iA z3.ix.length z3.ic ((z3.ix).flatMap LX.cells))::(.blk kw (bL (.slice R.nA 5 R.nc) mm.off (.slice R.fA R.fx.length R.fc) mm.shown (.slice R.sA mm.aH.length R.sc) (.slice R.tA mm.aM.length R.tc) mm.calls) 121)::(.own 169 23 (.slice R.fA R.fx.length R.fc) R.fx.length ((R.fx).flatMap LX.cells))::(.own 85 14 (.slice R.sA mm.aH.length R.sc) mm.aH.length ((mm.aH).flatMap eT.cells))::(.own 81 7 (.slice R.tA mm.aM.length R.tc) mm.aM.length ((mm.aM).flatMap fK.cells))::(.own 43 1 (.slice OA ps.length oc) ps.length ((ps).flatMap jN))::(.blk IZ (mO R.fx.length (upd U9 k X3.up) mm.off (.slice OA ps.length oc) (.slice R.sA mm.aH.length R.sc) (.slice R.tA mm.aM.length R.tc) mm.calls) 38)::(.blk b1 #[iV 0,.bool false,.bool false,.bool false,.bool false,.bool false,iV 0,iV 0,iV 0,iV 0,iV 0,iV 0,iV 0,iV 0,.slice none 0 0,.slice none 0 0,.slice none 0 0,iV 0] 38)::((N9++rk)++dU bs)):=St.perm IV (List.Perm.cons _ (List.Perm.cons _ (List.perm_append_comm (l₁:=dU bs))));clear uj;iterate 10 refine zQ ?_
   refine FL FQ ?_;intro b90 Zz vI;refine dB (news:=[.slice (aD bB 0) 4 4]) (xs':=((ps++[(bB,bs)])).flatMap jN) 10 vI (wn rfl) rfl rfl rfl rfl rfl rfl (St.iG (xs:=[.slice (aD bB 0) 4 4]) 0 vI rfl rfl rfl) Tryz.underlying34 Ze rfl (by decide) (bZ rfl) (by simp only [maxLen];omega) (by omega) (jZ (enc:=jN) rfl rfl) ?_;intro Mw Mx w95 aD9 aEa Bn;refine zQ ?_;refine iU 11 Bn Yy ?_ (hs:=by exact ag8);intro w99 oJ;iterate 4 refine zQ ?_
   refine vv (v:=iV ((k+1:Nat):Int)) jv ?_;iterate 2 refine zQ ?_
   have sG:=oJ.aR [2,0];have pG:=sG.dM [0,10,10,10,10,10,10,10,10,10,10];have l9:St B w0 w99 ((.own 43 1 (.slice Mw (ps.length+1) Mx) (ps.length+1) (((ps++[(bB,bs)])).flatMap jN))::(.blk IZ (mO R.fx.length (upd U9 k X3.up) mm.off (.slice Mw (ps.length+1) Mx) (.slice R.sA mm.aH.length R.sc) (.slice R.tA mm.aM.length R.tc) mm.calls) 38)::(.blk b1 #[iV 0,.bool false,.bool false,.bool false,.bool false,.bool false,iV 0,iV 0,iV 0,iV 0,iV 0,iV 0,iV 0,iV 0,.slice none 0 0,.slice none 0 0,.slice none 0 0,iV 0] 38)::(((.own 42 6 (.slice (aD bB 0) 4 4) 4 ((bs).flatMap BX.cells))::(dU bs++N9))++LF)):=by
    rw [hLF,hLC];exact St.ag9 (n:=k) (gs:=[.own 43 1 (.slice Mw (ps.length+1) Mx) (ps.length+1) (((ps++[(bB,bs)])).flatMap jN),.blk IZ (mO R.fx.length (upd U9 k X3.up) mm.off (.slice Mw (ps.length+1) Mx) (.slice R.sA mm.aH.length R.sc) (.slice R.tA mm.aM.length R.tc) mm.calls) 38,.blk b1 #[iV 0,.bool false,.bool false,.bool false,.bool false,.bool false,iV 0,iV 0,iV 0,iV 0,iV 0,iV 0,iV 0,iV 0,.slice none 0 0,.slice none 0 0,.slice none 0 0,iV 0] 38,.own 42 6 (.slice (aD bB 0) 4 4) 4 ((bs).flatMap BX.cells)]) (N:=N9) (E:=dU bs) (fs:=fs) hk4 (by subst acV;subst bR;rw [zq,hz3];rw [←Jw] at pG;exact pG)
   have QI:ps.length+1=(ps++[(bB,bs)]).length:=by simp
   rw [QI] at l9;refine bY (k+1,upd U9 k X3.up,(ps++[(bB,bs)]),Mw,Mx,(.own 42 6 (.slice (aD bB 0) 4 4) 4 ((bs).flatMap BX.cells)::(dU bs++N9))) ?_ ⟨rfl,rfl,rfl,rfl,rfl,rfl,trivial⟩ (by first | omega | (dsimp only;omega));exact ⟨(by dsimp only;omega),(by dsimp only;rw [List.length_append,Yu];rfl),(by dsimp only;exact KH Yu (fun j p hp=>(acT j p hp).mono (fun f hf=>(List.mem_append.1 hf).elim (fun h=>List.mem_append_left _ (List.mem_cons_of_mem _ (List.mem_append_right _ h))) fun h=>List.mem_append_right _ h)) (afR hbm hbc zq hup)),(by dsimp only;exact OP acU zq),l9⟩
  iterate 4 refine zQ ?_
  refine vv (v:= .bool true) (KC hup (aj rfl rfl (aA Tryz.underlying4 rfl (St.cl 0 uj rfl rfl)))) ?_;iterate 10 refine zQ ?_
  refine FL uj ?_;intro aEb anr xL;refine dB (news:=[.slice (aD z3.bb 0) 4 4]) (xs':=((ps++[(z3.bb,z3.bx)])).flatMap jN) 8 xL (wn rfl) rfl rfl rfl rfl rfl rfl (St.iG (xs:=[.slice (aD z3.bb 0) 4 4]) 0 xL rfl rfl rfl) Tryz.underlying34 Ze rfl (by decide) (bZ rfl) (by simp only [maxLen];omega) (by omega) (jZ (enc:=jN) rfl rfl) ?_;intro Iq Ir VT azn azo pq;refine zQ ?_;refine iU 9 pq Yy ?_ (hs:=by exact ag8);intro ab9 yX;iterate 4 refine zQ ?_
  refine vv (v:=iV ((k+1:Nat):Int)) jv ?_;iterate 2 refine zQ ?_
  have ko:=yX.aR [0];have uG:=ko.dM [9,9,9,9,9,9,9,9,9,9];have tT:St B w0 ab9 ((.own 43 1 (.slice Iq (ps.length+1) Ir) (ps.length+1) (((ps++[(z3.bb,z3.bx)])).flatMap jN))::(.blk IZ (mO R.fx.length (upd U9 k X3.up) mm.off (.slice Iq (ps.length+1) Ir) (.slice R.sA mm.aH.length R.sc) (.slice R.tA mm.aM.length R.tc) mm.calls) 38)::(.blk b1 #[iV 0,.bool false,.bool false,.bool false,.bool false,.bool false,iV 0,iV 0,iV 0,iV 0,iV 0,iV 0,iV 0,iV 0,.slice none 0 0,.slice none 0 0,.slice none 0 0,iV 0] 38)::(N9++LF)):=by
   rw [hLF,hLC];exact St.ag9 (n:=k) (gs:=[.own 43 1 (.slice Iq (ps.length+1) Ir) (ps.length+1) (((ps++[(z3.bb,z3.bx)])).flatMap jN),.blk IZ (mO R.fx.length (upd U9 k X3.up) mm.off (.slice Iq (ps.length+1) Ir) (.slice R.sA mm.aH.length R.sc) (.slice R.tA mm.aM.length R.tc) mm.calls) 38,.blk b1 #[iV 0,.bool false,.bool false,.bool false,.bool false,.bool false,iV 0,iV 0,iV 0,iV 0,iV 0,iV 0,iV 0,iV 0,.slice none 0 0,.slice none 0 0,.slice none 0 0,iV 0] 38]) (N:=N9) (E:=[]) (fs:=fs) hk4 (by subst acV;subst bR;rw [zq,hz3,List.append_nil];rw [←Jw] at uG;exact uG)
  have QI:ps.length+1=(ps++[(z3.bb,z3.bx)]).length:=by simp
  rw [QI] at tT;refine bY (k+1,upd U9 k X3.up,(ps++[(z3.bb,z3.bx)]),Iq,Ir,N9) ?_ ⟨rfl,rfl,rfl,rfl,rfl,rfl,trivial⟩ (by first | omega | (dsimp only;omega));exact ⟨(by dsimp only;omega),(by dsimp only;rw [List.length_append,Yu];rfl),(by dsimp only;exact KH Yu (fun j p hp=>(acT j p hp).mono (fun f hf=>hf)) (hLC▸afQ (G.lC k hk4) zq hz3 hup hk4)),(by dsimp only;exact OP acU zq),tT⟩
 iterate 13 refine zQ ?_
 refine stA 2 vH Cr ?_ (h1:=by exact RN (fl:=R.fx.length) (U:=U9) (d:=mm.off) (bv:= .slice OA ps.length oc) (sv:= .slice R.sA mm.aH.length R.sc) (tv:= .slice R.tA mm.aM.length R.tc) (calls:=mm.calls) rfl rfl rfl);intro JQ kX;iterate 5 refine zQ ?_
 have hsf:wS l=0:=aow;refine ⟨fun h=>absurd hsf h,fun _=>?_⟩;have oM:=kX.aR [2,1];have h5:k=5:=by omega
 rw [hLF] at oM;refine ⟨_,[.own 43 1 (.slice OA ps.length oc) ps.length ((ps).flatMap jN)]++(N9++LC),rfl,?_,St.aq5 (gs:=[.own 43 1 (.slice OA ps.length oc) ps.length ((ps).flatMap jN)]) (N:=N9) (fs:=fs) (LC:=LC) oM⟩;rw [←hmm];exact afS (ps:=ps) G (by omega) (fun j hj=>acU j (by omega)) (List.mem_append_left _ (List.mem_singleton.2 rfl)) (fun f hf=>List.mem_append_right _ (List.mem_append_right _ (hLC▸hf))) (fun j p hp=>(acT j p hp).mono fun f hf=>List.mem_append_right _ hf)
theorem uT (A:Option Addr) (c:Nat) (l:List Ac) (w:World) (h:Rd w w.heap.size 11 A l.length (l.flatMap Ac.cells)) (hb:l.length*88≤reachBytes):
    Calls Tryz.prog 32 #[.slice A l.length c] w (jY w (wS l)):=by
 have S:=(St.start w).bH h;have hb2:=hb;unfold reachBytes at hb2;refine fE 22 Tryz.func32 ?_;refine cw [0] ?_;iterate 10 refine zQ ?_
 by_cases h1:100000< ((l.length:Nat):Int)
 ·iterate 12 refine zQ ?_
  rw [OO (by omega)];exact ⟨rfl,S.low⟩
 iterate 13 refine zQ ?_
 refine fH (X:=Nat) (fun xv=>[(0,.slice A l.length c),(2,iV 0),(3,iV ((xv:Nat):Int))]) (fun xv wr=>(xv≤l.length)∧(sS l=sS (l.drop xv))∧St w.heap.size w wr [.rd 11 A l.length ((l).flatMap Ac.cells)]) (fun xv=>l.length-xv) (0) ?_ ?_ ?_
 ·exact ⟨Nat.zero_le _,rfl,S⟩
 ·exact ⟨rfl,rfl,rfl,trivial⟩
 rintro k w2 ⟨hi4,hi5,S3⟩
 try dsimp only at hi4 hi5 S3
 refine bq (l':=[(0,.slice A l.length c),(2,iV 0),(3,iV ((k:Nat):Int))]) ⟨rfl,rfl,rfl,trivial⟩ (aW (aW (aO (vm ?_))));iterate 2 refine zQ ?_
 by_cases h6:((k:Nat):Int)< ((l.length:Nat):Int)
 ·iterate 12 refine zQ ?_
  obtain ⟨b7,o8,rfl⟩:=Rd.addr (St.rd 0 S3 rfl) (by omega);obtain ⟨x9,RQ⟩:=FK k (St.rd 0 S3 rfl) (by omega);refine vv (gM k) ?_;refine vv (aj rfl rfl (aG (cs:=Ac.cells x9) Tryz.underlying77 rfl jA rfl (Rd.uN (St.rd 0 S3 rfl) (fun _ _ h=>bS (enc:=Ac.cells) (sz:=11) (fun _=>rfl) RQ h)))) ?_;refine cab asu S3 (Il x9 _) ?_;intro Ee lq;iterate 6 refine zQ ?_
  by_cases Zr:fT x9=0
  ·iterate 9 refine zQ ?_
   refine vv (v:=iV ((k+1:Nat):Int)) jv ?_;iterate 2 refine zQ ?_
   refine bY (k+1) ?_ ⟨rfl,rfl,rfl,trivial⟩ (by first | omega | (dsimp only;omega));exact ⟨(by omega),(by rw [hi5];exact aaj RQ Zr),lq⟩
  iterate 17 refine zQ ?_
  rw [FB (by omega),hi5,U8 RQ Zr];exact ⟨rfl,lq.low⟩
 iterate 16 refine zQ ?_
 rw [FB (by omega),hi5,List.drop_eq_nil_of_le (by omega)];exact ⟨rfl,S3.low⟩
theorem afT (x:Ac) (w:World):(binOp .neq 77 (.agg (x.cells).toArray) (.agg (x.cells).toArray)).run Tryz.prog w= .ok (.bool false) w:=
 LW w (l:=(.at_ (.int .i64):: .at_ (.int .i64):: .at_ (.int .i64):: .at_ (.int .i64):: .at_ (.int .i64):: .at_ (.int .i64):: .at_ (.int .i64):: .at_ (.int .i64):: .at_ (.int .i64):: .at_ (.int .i64):: .at_ (.int .i64)::[])) (by kernel_rfl) (by kernel_rfl) (fun xs=>by unfold mkV;rw [Tryz.underlying77]) ⟨⟨_,rfl⟩,⟨_,rfl⟩,⟨_,rfl⟩,⟨_,rfl⟩,⟨_,rfl⟩,⟨_,rfl⟩,⟨_,rfl⟩,⟨_,rfl⟩,⟨_,rfl⟩,⟨_,rfl⟩,⟨_,rfl⟩,trivial⟩
theorem tY (A A':Option Addr) (c c':Nat) (l:List Ac) (w:World) (h:Rd w w.heap.size 11 A l.length ((l).flatMap Ac.cells)) (h':Rd w w.heap.size 11 A' l.length ((l).flatMap Ac.cells)) (hl:l.length≤1152921504606846976):
    Calls Tryz.prog 33 #[.slice A l.length c,.slice A' l.length c'] w (zV w true):=by
 have S:=((St.start w).bH h').bH h;refine fE 26 Tryz.func33 ?_;refine cw [0,1] ?_;iterate 25 refine zQ ?_
 refine fH (X:=Nat) (fun xv=>[(0,.slice A l.length c),(1,.slice A' l.length c'),(4,.bool false),(5,iV ((xv:Nat):Int))]) (fun xv wr=>(xv≤l.length)∧St w.heap.size w wr [.rd 11 A l.length ((l).flatMap Ac.cells),.rd 11 A' l.length ((l).flatMap Ac.cells)]) (fun xv=>l.length-xv) (0) ?_ ?_ ?_
 ·exact ⟨Nat.zero_le _,S⟩
 ·exact ⟨rfl,rfl,rfl,rfl,trivial⟩
 rintro k w1 ⟨hi3,S2⟩
 try dsimp only at hi3 S2
 refine bq (l':=[(0,.slice A l.length c),(1,.slice A' l.length c'),(4,.bool false),(5,iV ((k:Nat):Int))]) ⟨rfl,rfl,rfl,rfl,trivial⟩ (aW (aW (aO (vm ?_))));iterate 2 refine zQ ?_
 by_cases h4:((k:Nat):Int)< ((l.length:Nat):Int)
 ·iterate 9 refine zQ ?_
  refine eH S2 mixed (by kernel_rfl) ?_;iterate 2 refine zQ ?_
  obtain ⟨b7,o8,rfl⟩:=Rd.addr (St.rd 0 S2 rfl) (by omega);obtain ⟨x9,RQ⟩:=FK k (St.rd 0 S2 rfl) (by omega);refine uv (fun _ _=>gM k) ?_;refine uv (v:= .agg #[iV x9.kd,iV x9.nd,iV x9.qu,iV x9.at_,iV x9.kp,iV x9.ek,iV x9.ep,iV x9.ei,iV x9.eb,iV x9.eh,iV x9.en]) (fun _ Yk=>(aj rfl rfl (aG (cs:=Ac.cells x9) Tryz.underlying77 rfl jA rfl (Rd.uN (St.rd 0 Yk rfl) (fun _ _ h=>bS (enc:=Ac.cells) (sz:=11) (fun _=>rfl) RQ h))))) ?_;iterate 2 refine zQ ?_
  obtain ⟨b15,o16,rfl⟩:=Rd.addr (St.rd 1 S2 rfl) (by omega);refine uv (fun _ _=>gM k) ?_;refine uv (v:= .agg #[iV x9.kd,iV x9.nd,iV x9.qu,iV x9.at_,iV x9.kp,iV x9.ek,iV x9.ep,iV x9.ei,iV x9.eb,iV x9.eh,iV x9.en]) (fun _ axS=>(aj rfl rfl (aG (cs:=Ac.cells x9) Tryz.underlying77 rfl jA rfl (Rd.uN (St.rd 1 axS rfl) (fun _ _ h=>bS (enc:=Ac.cells) (sz:=11) (fun _=>rfl) RQ h))))) ?_;refine uv (v:= .bool false) (fun _ _=>(ah rfl rfl rfl (yB (by kernel_rfl) (afT x9 _)))) ?_;refine fC fun ZH qP=>?_
  iterate 7 refine zQ ?_
  refine vv (v:=iV ((k+1:Nat):Int)) jv ?_;iterate 2 refine zQ ?_
  refine bY (k+1) ?_ ⟨rfl,rfl,rfl,rfl,trivial⟩ (by first | omega | (dsimp only;omega));exact ⟨(by omega),qP⟩
 iterate 16 refine zQ ?_
 exact ⟨rfl,S2.low⟩
theorem zw (A:Option Addr) (c:Nat) (l:List Ac) (w:World) (h:Rd w w.heap.size 11 A l.length (l.flatMap Ac.cells)) (hb:l.length*88≤reachBytes) (hu:Uk w.heap.size w):
    Calls Tryz.prog 6 #[.slice A l.length c] w (fun e w'=>e= .returned (.bool true)∧Below w.heap.size w w'):=by
 have S:=(St.start w).bH h;have hb2:=hb;unfold reachBytes at hb2;refine fE 51 Tryz.func6 ?_;refine cw [0] ?_;iterate 8 refine zQ ?_
 refine dO asn (Tk A c l _ (St.rd 0 S rfl) hb) ?_;rintro _ w3 ⟨A1,c2,rfl,T5⟩;refine ⟨_,rfl,?_⟩;have S4:=S.ext T5 rfl;iterate 4 refine zQ ?_
 rcases Decidable.em (wS l=0) with hsf | hsf
 ·iterate 2 refine zQ ?_
  refine dO alD (Go.Calls.mono (KI (l:=l) (A:=A1) (c:=c2) S4 hu (Ro.bG (List.mem_cons_self ..)) hb) fun e w2 h=>(h.2 hsf)) ?_;rintro _ w6 ⟨row,L,rfl,⟨U,BA,bc,sA,sc,tA,tc,ps,rfl,_⟩,H7⟩;refine ⟨_,rfl,?_⟩;have S8:=H7.sub (List.sublist_append_right _ _);clear H7;iterate 3 refine zQ ?_
  refine eU S8 ab4 ?_;intro b9 Ma jQ;refine stA 0 jQ Cr ?_ (h1:=by exact RN (fl:=(Om.run l).fly.length) (U:=U) (d:=(Om.run l).off) (bv:= .slice BA 5 bc) (sv:= .slice sA ((Om.run l).aH.length) sc) (tv:= .slice tA ((Om.run l).aM.length) tc) (calls:=(Om.run l).calls) rfl rfl rfl);intro Qr qK;iterate 6 refine zQ ?_
  refine cab alE qK (uT A c l _ ((St.rd 2 qK rfl)) hb) ?_;intro FT gH;iterate 7 refine zQ ?_
  by_cases kF:0=wS l
  ·iterate 31 refine zQ ?_
   refine qB ahe (tY A1 A c2 c l _ (St.bG 1 gH rfl) (St.rd 2 gH rfl) (by omega)) ?_;rintro _ L8 ⟨rfl,VL⟩;refine ⟨_,rfl,?_⟩;have lg:=gH.on VL;iterate 6 refine zQ ?_
   exact ⟨rfl,lg.low⟩
  refine vv (QZ kF) ?_;iterate 37 refine zQ ?_
  exact absurd hsf.symm ‹¬ 0=wS l›
 iterate 2 refine zQ ?_
 refine dO alD (Go.Calls.mono (KI (l:=l) (A:=A1) (c:=c2) S4 hu (Ro.bG (List.mem_cons_self ..)) hb) fun e w2 h=>(h.1 hsf)) ?_;rintro _ Bh ⟨rfl,mE⟩;refine ⟨_,rfl,?_⟩;iterate 3 refine zQ ?_
 refine eU mE ab4 ?_;intro b24 w25 kD;refine stA 0 kD Cr ?_ (h1:=by exact RN (fl:=0) (U:=(fun _=>false)) (d:=(⟨⟨0,0⟩,⟨0,0⟩,⟨0,0⟩,⟨0,0⟩⟩:Dir)) (bv:= .slice none 0 0) (sv:= .slice none 0 0) (tv:= .slice none 0 0) (calls:=0) rfl rfl rfl);intro JV qM;iterate 6 refine zQ ?_
 refine cab alE qM (uT A c l _ ((St.rd 2 qM rfl)) hb) ?_;intro V7 tF;iterate 10 refine zQ ?_
 by_cases h32:wS l=0
 ·iterate 28 refine zQ ?_
  refine qB ahe (tY A1 A c2 c l _ (St.bG 1 tF rfl) (St.rd 2 tF rfl) (by omega)) ?_;rintro _ Qp ⟨rfl,axT⟩;refine ⟨_,rfl,?_⟩;have oD:=tF.on axT;iterate 6 refine zQ ?_
  exact ⟨rfl,oD.low⟩
 refine vg (QZ h32) ?_;iterate 20 refine zQ ?_
 by_cases vJ:((0:Nat):Int)=0
 ·refine vg (apj vJ) ?_;iterate 6 refine zQ ?_
  refine qB ahe (tY A1 A c2 c l _ (St.bG 1 tF rfl) (St.rd 2 tF rfl) (by omega)) ?_;rintro _ NQ ⟨rfl,aiC⟩;refine ⟨_,rfl,?_⟩;have oG:=tF.on aiC;iterate 6 refine zQ ?_
  exact ⟨rfl,oG.low⟩
 refine vg (QZ vJ) ?_;iterate 13 refine zQ ?_
 exact absurd rfl ‹¬ ((0:Nat):Int)=0›
theorem Af (W:World) (hu:Uk W.heap.size W) (args:Array Value) (h:dL (QM Tryz.prog W) args.toList Tryz.f6.params.toList):
  Calls Tryz.prog 6 args W fun e W'=>e= .returned (.bool true)∧Below W.heap.size W W':=by
 rw [Tryz.params6] at h;obtain ⟨v,l1,hv,h1,h0⟩:=dL.wT h;have h4:=dL.vk h0;subst h4;obtain rfl:args= #[v]:=by cases args;simp_all
 obtain ⟨A,c,l,rfl,hr,hn,hb⟩:=abm h1;exact zw A c l W hr (by omega) hu
end Go.Proofs.YtbffmhpkenoogaaGreatDoor
