import Derived.Lib.ItoaMem
import Derived.Lib.AppendIntMem
import Derived.Lib.QuietBelow
import Derived.Test.YtcomidffhiilcaaGreatDoorGd87a1
import Derived.Test.YtcomidffhiilcaaGreatDoorGf6e25
set_option maxRecDepth 100000
set_option maxHeartbeats 8000000
set_option linter.unusedSimpArgs false
set_option linter.unusedVariables false
namespace Go.Proofs.YtcomidffhiilcaaGreatDoor
open ChangeShapes WideShapes RowKit
theorem CV (e nx g:Int) (r l:Value) (W:kN) (m:gV) (w:World):
    Calls Tryz.prog 172 #[.agg (cZ e nx g (r) (l) W),.agg #[iV m.no,iV m.body]] w (EU w (wz nx m)):=by
 have S:=St.start w;refine gK 25 Tryz.func172 ?_;refine cw [0,1] ?_;refine zN 2 ?_;refine iT S ?_;intro b1 w2 S3;refine iT S3 ?_;intro b4 w5 S6;refine zN 7 ?_;by_cases h7:0<=m.no
 ·refine zN 5 ?_;refine vg (ah rfl rfl (aG (St.cl 1 S6 rfl Aq))) ?_;by_cases h8:m.no<nx
  ·refine zN 5 ?_;by_cases h9:0<=m.body
   ·refine zN 5 ?_;by_cases h10:m.body<=1000000
    ·refine zN 7 ?_;refine ⟨?_,S6.low⟩;rw [show wz nx m=true from decide_eq_true ⟨‹_›,‹_›,‹_›,‹_›⟩];rfl
    refine zN 7 ?_;refine ⟨?_,S6.low⟩;rw [show wz nx m=false from decide_eq_false (λh=>absurd h.2.2.2 ‹_›)];rfl
   refine zN 12 ?_;refine ⟨?_,S6.low⟩;rw [show wz nx m=false from decide_eq_false (λh=>absurd h.2.2.1 ‹_›)];rfl
  refine zN 17 ?_;refine ⟨?_,S6.low⟩;rw [show wz nx m=false from decide_eq_false (λh=>absurd h.2.1 ‹_›)];rfl
 refine zN 23 ?_;refine ⟨?_,S6.low⟩;rw [show wz nx m=false from decide_eq_false (λh=>absurd h.1 ‹_›)];rfl
theorem Pd (ep nx gv:Int) (A1 A2:Option Addr) (c1 c2:Nat) (rs:List gV) (ls:List Ls) (W:kN) (w:World) (h1:Rd w w.heap.size 2 A1 rs.length (rs.flatMap gV.cells)) (h2:Rd w w.heap.size 4 A2 ls.length (ls.flatMap Ls.cells)) (hb1:rs.length*16<=reachBytes) (hb2:ls.length*32<=reachBytes):
    Calls Tryz.prog 164 #[.agg (cZ ep nx gv (.slice A1 rs.length c1) (.slice A2 ls.length c2) W)] w (UC w (jv ep nx gv rs ls W)):=by
 unfold reachBytes at hb1 hb2;have S:=((St.start w).bX h2).bX h1;refine gK 140 Tryz.func164 ?_;refine cw [0] ?_;refine zN 2 ?_;refine iT S ?_;intro b1 w2 S3;refine zN 7 ?_;refine vv (ah rfl rfl (aG (St.cl 0 S3 rfl xH))) ?_;by_cases h4:ep<0
 ·refine zN 47 ?_;exact ⟨gX (BQ oQ).symm,S3.low⟩
 refine zN 3 ?_;refine vg (ah rfl rfl (aG (St.cl 0 S3 rfl xH))) ?_;by_cases h5:1048576<ep
 ·refine zN 43 ?_;exact ⟨gX (BQ oQ).symm,S3.low⟩
 refine zN 4 ?_;refine vg (ah rfl rfl (aG (St.cl 0 S3 rfl Aq))) ?_;by_cases h6:nx<0
 ·refine zN 38 ?_;exact ⟨gX (BQ oQ).symm,S3.low⟩
 refine zN 4 ?_;refine vg (ah rfl rfl (aG (St.cl 0 S3 rfl Aq))) ?_;by_cases h7:1073741824<nx
 ·refine zN 33 ?_;exact ⟨gX (BQ oQ).symm,S3.low⟩
 refine zN 4 ?_;refine vg (ah rfl rfl (aG (St.cl 0 S3 rfl Ar))) ?_;by_cases h8:gv<0
 ·refine zN 28 ?_;exact ⟨gX (BQ oQ).symm,S3.low⟩
 refine zN 4 ?_;refine vg (ah rfl rfl (aG (St.cl 0 S3 rfl Ar))) ?_;by_cases h9:1073741824<gv
 ·refine zN 23 ?_;exact ⟨gX (BQ oQ).symm,S3.low⟩
 refine zN 4 ?_;refine vg (ah rfl rfl (aG (St.cl 0 S3 rfl pR))) ?_;refine zN 2 ?_;refine vg (ah rfl rfl (aG (St.cl 0 S3 rfl sU))) ?_;refine zQ ?_;refine vg (v:=iV ((rs.length+ls.length:Nat):Int)) j6 ?_;by_cases h10:500< ((rs.length+ls.length:Nat):Int)
 ·refine zN 13 ?_;exact ⟨gX (BQ oQ).symm,S3.low⟩
 refine zN 11 ?_;refine vv (ah rfl rfl (dK (cs:=(W.cells)) (St.rg 0 S3 rfl (ain)))) ?_;refine zN 4 ?_;refine eP (X:=Nat) (λxv=>[(1,pV b1 0),(2,iV 0),(51,.agg ((W.cells).toArray)),(52,iV ((xv:Nat):Int))]) (λxv wr=>(xv<=4)/\(∀ j,j<xv->fF (W.at j)=0)/\St w.heap.size w wr [.blk b1 (cZ ep nx gv (.slice A1 rs.length c1) (.slice A2 ls.length c2) W) 224,.rd 2 A1 rs.length ((rs).flatMap gV.cells),.rd 4 A2 ls.length ((ls).flatMap Ls.cells)]) (λxv=>4-xv) (0) ?_ ?_ ?_
 ·exact ⟨Nat.zero_le _,λj hj=>absurd hj (Nat.not_lt_zero _),S3⟩
 ·exact mG
 rintro k EW ⟨alj,K4,kP⟩
 try dsimp only at alj K4 kP
 refine bg (l':=[(1,pV b1 0),(2,iV 0),(51,.agg ((W.cells).toArray)),(52,iV ((k:Nat):Int))]) mG (aA (av ?_));by_cases h15:((k:Nat):Int)<4
 ·refine zN 11 ?_;refine vv (v:= .agg (((W.at k).cells).toArray)) (ahh rfl rfl rfl (V4 W k oQ _)) ?_;refine fT kP alh ?_;intro b16 Kt iU;refine stA 0 iU kQ ?_ (h1:=Ik _);intro BZ kD;refine zN 5 ?_;refine cab eQ kD (EK (W.at k) _) ?_;intro CW iM;refine zN 6 ?_;by_cases Pe:fF (W.at k)=0
  ·refine zN 8 ?_;refine vv (v:=iV ((k+1:Nat):Int)) j6 ?_;refine zN 2 ?_;have iy:=iM.aU [0];refine bT (k+1) ?_ mG (by first | omega | (dsimp only;omega));exact ⟨oQ,(λj hj=>(Nat.lt_succ_iff_lt_or_eq.1 hj).elim (λh=>K4 j h) (λh=>by rw [h];exact Pe)),iy⟩
  refine zN 17 ?_;refine ⟨gX ?_,iM.low⟩;rw [aol (j:=k) oQ Pe];exact (aiy _).resolve_left Pe
 refine zN 12 ?_;refine VD (k:=3) kP (wn rfl) rfl rfl rfl ?_;intro Y8 MW sJ;have axb:Jc W:=λj hj=>K4 j oQ;refine zN 12 ?_;refine vv (ah rfl rfl (aG (St.cl 1 sJ rfl pR))) ?_;refine zN 5 ?_;refine eP (X:=Nat×Int) (λxv=>[(1,pV b1 0),(2,iV 0),(6,.map (some Y8)),(7,iV xv.2),(63,.slice A1 rs.length c1),(64,iV ((rs.length:Nat):Int)),(65,iV ((xv.1:Nat):Int))]) (λxv wr=>(xv.1<=rs.length)/\(mQ nx (-1) rs=mQ nx xv.2 (rs.drop xv.1))/\St w.heap.size w wr [.loc Y8 (KR Tryz.prog 3 ((rs.take xv.1).map (·.no))),.blk b1 (cZ ep nx gv (.slice A1 rs.length c1) (.slice A2 ls.length c2) W) 224,.rd 2 A1 rs.length ((rs).flatMap gV.cells),.rd 4 A2 ls.length ((ls).flatMap Ls.cells)]) (λxv=>rs.length-xv.1) (0,-1) ?_ ?_ ?_
 ·exact ⟨Nat.zero_le _,rfl,sJ⟩
 ·exact CU
 rintro ⟨k,p⟩ TY ⟨Il,wY,lg⟩
 try dsimp only at Il wY lg
 refine bg (l':=[(1,pV b1 0),(2,iV 0),(6,.map (some Y8)),(7,iV p),(63,.slice A1 rs.length c1),(64,iV ((rs.length:Nat):Int)),(65,iV ((k:Nat):Int))]) CU (aA (av ?_));by_cases h34:((k:Nat):Int)< ((rs.length:Nat):Int)
 ·refine zN 11 ?_;obtain ⟨b35,o36,rfl⟩:=Rd.addr (St.rd 2 lg rfl) oQ;obtain ⟨x37,hx38⟩:=EL k (St.rd 2 lg rfl) oQ;refine vv (kY k) ?_;refine vv (ah rfl rfl (dK (cs:=gV.cells x37) (Rd.vG (St.rd 2 lg rfl) (λ_ _ h=>bU (enc:=gV.cells) (sz:=2) (λ_=>rfl) hx38 h)))) ?_;refine fT lg axa ?_;intro b39 w40 Jf;refine sa 0 Jf kQ ?_;intro QT qM;refine zN 7 ?_;refine dL eQ (CV ep nx gv _ _ W x37 _) ?_;rintro _ QU ⟨rfl,axc⟩;refine ⟨_,rfl,?_⟩;have oP:=qM.on axc
  cases UF:(wz nx x37)
  ·refine zN 23 ?_;exact ⟨gX (yV λh=>by rw [wY,JH hx38,UF] at h;exact absurd h.2.1 iQ).symm,oP.low⟩
  have aC6:=QN UF;refine zN 5 ?_;by_cases h49:p<x37.no
  ·refine zN 18 ?_;refine vv (v:= .agg #[]) yz ?_;refine MF (z:=x37.no) 1 oP (wn rfl) rfl rfl rfl rfl rfl rfl Tryz.underlying3 Tryz.underlying281 oQ (by simp [maxLen];omega) ?_;intro Pf uh;rw [JI (f:=λm:gV=>m.no) hx38] at uh;refine zN 4 ?_;refine vv (v:=iV ((k+1:Nat):Int)) j6 ?_;refine zN 2 ?_;have zI:=uh.aU [0];refine bT (k+1,x37.no) ?_ CU (by first | omega | (dsimp only;omega));exact ⟨uQ,(by dsimp only;rw [wY,JH hx38,UF,decide_eq_true h49];rfl),zI⟩
  refine zN 18 ?_;exact ⟨gX (yV λh=>by rw [wY,JH hx38,decide_eq_false h49] at h;exact absurd h.2.1 iQ).symm,oP.low⟩
 refine zN 19 ?_;refine vv (ah rfl rfl (aG (St.cl 1 lg rfl sU))) ?_;refine zN 5 ?_;have axd:mQ nx (-1) rs=true:=by rw [wY,List.drop_of_length_le oQ];rfl
 have vI:=lg;rw [List.take_of_length_le (show rs.length<=k by omega)] at vI;rw [<-List.append_nil (rs.map (·.no))] at vI;refine eP (X:=Nat×Int) (λxv=>[(1,pV b1 0),(2,iV 0),(6,.map (some Y8)),(7,iV xv.2),(87,.slice A2 ls.length c2),(88,iV ((ls.length:Nat):Int)),(89,iV ((xv.1:Nat):Int))]) (λxv wr=>(xv.1<=ls.length)/\(oO ep nx gv (-1) ls=oO ep nx gv xv.2 (ls.drop xv.1))/\St w.heap.size w wr [.loc Y8 (KR Tryz.prog 3 (rs.map (·.no)++(ls.take xv.1).map (·.msg.no))),.blk b1 (cZ ep nx gv (.slice A1 rs.length c1) (.slice A2 ls.length c2) W) 224,.rd 2 A1 rs.length ((rs).flatMap gV.cells),.rd 4 A2 ls.length ((ls).flatMap Ls.cells)]) (λxv=>ls.length-xv.1) (0,-1) ?_ ?_ ?_
 ·exact ⟨Nat.zero_le _,rfl,vI⟩
 ·exact CU
 rintro ⟨k,p⟩ w56 ⟨axe,Qh,qN⟩
 try dsimp only at axe Qh qN
 refine bg (l':=[(1,pV b1 0),(2,iV 0),(6,.map (some Y8)),(7,iV p),(87,.slice A2 ls.length c2),(88,iV ((ls.length:Nat):Int)),(89,iV ((k:Nat):Int))]) CU (aA (av ?_));by_cases h60:((k:Nat):Int)< ((ls.length:Nat):Int)
 ·refine zN 11 ?_;obtain ⟨b61,o62,rfl⟩:=Rd.addr (St.rd 3 qN rfl) oQ;obtain ⟨XR,Qi⟩:=EL k (St.rd 3 qN rfl) oQ;refine vv (kY k) ?_;refine vv (ah rfl rfl (dK (cs:=Ls.cells XR) (Rd.vG (St.rd 3 qN rfl) (λ_ _ h=>bU (enc:=Ls.cells) (sz:=4) (λ_=>rfl) Qi h)))) ?_;refine fT qN ap0 ?_;intro b65 Pg qO;refine sa 0 qO kQ ?_;intro w68 tN;refine zN 7 ?_;refine vv (ah rfl rfl (dK (cs:=[iV XR.msg.no,iV XR.msg.body]) (St.rg 0 tN rfl (l8 (x:=2) (m:=2) rfl)))) ?_;refine dL eQ (CV ep nx gv _ _ W XR.msg _) ?_;rintro _ Y9 ⟨rfl,axf⟩;refine ⟨_,rfl,?_⟩;have sK:=tN.on axf
  cases alk:(wz nx XR.msg)
  ·refine zN 40 ?_;exact ⟨gX (yV λh=>by rw [Qh,Dz Qi,MR,alk] at h;exact absurd h.2.2.1 iQ).symm,sK.low⟩
  have aC7:=QN alk;refine zN 6 ?_;refine vg (ah rfl rfl (aG (St.cl 2 sK rfl xH))) ?_;by_cases h75:XR.iC=ep
  ·refine zN 7 ?_;by_cases h76:p<XR.hno
   ·refine zN 7 ?_;refine vg (ah rfl rfl (aG (St.cl 2 sK rfl Ar))) ?_;by_cases h77:XR.hno<gv
    ·refine zN 20 ?_;refine vv (v:= .agg #[]) yz ?_;refine MF (z:=XR.msg.no) 1 sK (wn rfl) rfl rfl rfl rfl rfl rfl Tryz.underlying3 Tryz.underlying281 oQ (by simp [maxLen];omega) ?_;intro w78 zJ;rw [List.append_assoc,JI (f:=λm:Ls=>m.msg.no) Qi] at zJ;refine zN 4 ?_;refine vv (v:=iV ((k+1:Nat):Int)) j6 ?_;refine zN 2 ?_;have tO:=zJ.aU [0];refine bT (k+1,XR.hno) ?_ CU (by first | omega | (dsimp only;omega));exact ⟨uQ,(by dsimp only;rw [Qh,Dz Qi,MR,alk,decide_eq_true ⟨by omega,by omega,by omega⟩];rfl),tO⟩
    refine zN 18 ?_;exact ⟨gX (yV λh=>by rw [Qh,Dz Qi,MR,decide_eq_false (λh1=>h77 (h1.2.2)),Bool.and_false] at h;exact absurd h.2.2.1 iQ).symm,sK.low⟩
   refine zN 26 ?_;exact ⟨gX (yV λh=>by rw [Qh,Dz Qi,MR,decide_eq_false (λh1=>h76 (h1.2.1)),Bool.and_false] at h;exact absurd h.2.2.1 iQ).symm,sK.low⟩
  refine zN 33 ?_;exact ⟨gX (yV λh=>by rw [Qh,Dz Qi,MR,decide_eq_false (λh1=>h75 (h1.1)),Bool.and_false] at h;exact absurd h.2.2.1 iQ).symm,sK.low⟩
 refine zN 14 ?_;have axg:oO ep nx gv (-1) ls=true:=by rw [Qh,List.drop_of_length_le oQ];rfl
 have zK:=qN;rw [List.take_of_length_le (show ls.length<=k by omega)] at zK;change St _ _ _ [.loc Y8 (KR Tryz.prog 3 (Au rs ls)),.blk b1 (cZ ep nx gv (.slice A1 rs.length c1) (.slice A2 ls.length c2) W) 224,.rd 2 A1 rs.length ((rs).flatMap gV.cells),.rd 4 A2 ls.length ((ls).flatMap Ls.cells)] at zK;obtain ⟨m84,axh,axi,alm⟩:=adN 0 zK rfl Tryz.underlying281 3;have hnl:(Au rs ls).length=rs.length+ls.length:=by simp [Au]
 rw [hnl] at axi alm;refine vv (v:=iV ((m84:Nat):Int)) (cu (vs:=[.map (some Y8)]) rfl tU1 axh) ?_;refine zQ ?_;refine vv (ah rfl rfl (aG (St.cl 1 zK rfl pR))) ?_;refine zN 2 ?_;refine vv (ah rfl rfl (aG (St.cl 1 zK rfl sU))) ?_;refine zQ ?_;refine vv (v:=iV ((rs.length+ls.length:Nat):Int)) j6 ?_;by_cases h88:((m84:Nat):Int)< ((rs.length+ls.length:Nat):Int)
 ·refine zN 12 ?_;exact ⟨gX (yV λh=>alm.1 oQ h.2.2.2).symm,zK.low⟩
 refine zN 13 ?_;exact ⟨gX (atM (by unfold UD;omega) axb axd axg (Classical.not_not.1 λh=>h88 (by have:=alm.2 h;omega))).symm,zK.low⟩
instance:yU Ac where
 size:=11
 ints x:=x.ints
 of l:=⟨l.getD 0 0,l.getD 1 0,l.getD 2 0,l.getD 3 0,l.getD 4 0,l.getD 5 0,l.getD 6 0,l.getD 7 0,l.getD 8 0,l.getD 9 0,l.getD 10 0⟩
 pos:=oQ
 len _:=rfl
 inv xs h:=by
  obtain ⟨a1,xs,rfl⟩:=List.exists_cons_of_length_eq_add_one h;obtain ⟨a2,xs,rfl⟩:=List.exists_cons_of_length_eq_add_one (Nat.succ.inj h);have h:=Nat.succ.inj (Nat.succ.inj h);obtain ⟨a3,xs,rfl⟩:=List.exists_cons_of_length_eq_add_one h;obtain ⟨a4,xs,rfl⟩:=List.exists_cons_of_length_eq_add_one (Nat.succ.inj h);have h:=Nat.succ.inj (Nat.succ.inj h);obtain ⟨a5,xs,rfl⟩:=List.exists_cons_of_length_eq_add_one h;obtain ⟨a6,xs,rfl⟩:=List.exists_cons_of_length_eq_add_one (Nat.succ.inj h);have h:=Nat.succ.inj (Nat.succ.inj h);obtain ⟨a7,xs,rfl⟩:=List.exists_cons_of_length_eq_add_one h;obtain ⟨a8,xs,rfl⟩:=List.exists_cons_of_length_eq_add_one (Nat.succ.inj h);have h:=Nat.succ.inj (Nat.succ.inj h);obtain ⟨a9,xs,rfl⟩:=List.exists_cons_of_length_eq_add_one h;obtain ⟨a10,xs,rfl⟩:=List.exists_cons_of_length_eq_add_one (Nat.succ.inj h);have h:=Nat.succ.inj (Nat.succ.inj h);obtain ⟨a11,xs,rfl⟩:=List.exists_cons_of_length_eq_add_one h;obtain rfl:=List.eq_nil_of_length_eq_zero (Nat.succ.inj h);rfl
def Ph (x:Ac):List UInt8:=(bJ x.kd x.ek).data.toList
theorem MX (x:Ac):(Ph x).length<=7:=by
 have gen: ∀ kd ek:Int,(bJ kd ek).data.toList.length<=7:=λkd ek=>by
  rcases kinds kd ek with rfl | rfl | rfl | rfl | rfl | rfl | rfl | rfl | rfl | ⟨rfl,rfl⟩ | ⟨rfl,rfl⟩ | ⟨rfl,rfl⟩ | hn
  all_goals first | (rw [aou _ _ hn];exact Nat.zero_le _) | exact Nat.le_of_ble_eq_true rfl
 exact gen _ _
def Ht (x:Ac) (s:List UInt8) (p:Nat×Int):List UInt8:=s++32::Lib.itoa (x.get p.1)
def oU (x:Ac) (l:List (Nat×Int)):List UInt8:=l.foldl (Ht x) (Ph x)
def jK (x:Ac):List UInt8:=match aW x.kd x.ek with
 | none=>[]
 | some l=>oU x l
theorem AU {x:Ac} {l:List (Nat×Int)} {k:Nat} {p:Nat×Int} (h:l[k]? =some p):oU x (l.take (k+1))=oU x (l.take k)++32::Lib.itoa (x.get p.1):=by
 unfold oU;rw [List.take_add_one,h,List.foldl_append];rfl
theorem DF {x:Ac} {l:List (Nat×Int)} (h:aW x.kd x.ek=some l):jK x=oU x l:=by unfold jK;rw [h]
theorem yY {x:Ac} {l:List (Nat×Int)} (hf:aW x.kd x.ek=some l) (h0:aN x=0): ∀ p∈l,0<=x.get p.1/\x.get p.1<=p.2:=by
 have ha:l.all (FL x)=true:=by
  by_cases h:l.all (FL x)=true
  ·exact h
  rw [zF hf h] at h0;cases h0
 intro p hp;have:=List.all_eq_true.1 ha p hp;simpa [FL] using this
theorem Im {kd ek:Int} {l:List (Nat×Int)} (h:aW kd ek=some l): ∀ p∈l,p.2<=1073741824:=by
 rcases kinds kd ek with rfl | rfl | rfl | rfl | rfl | rfl | rfl | rfl | rfl | ⟨rfl,rfl⟩ | ⟨rfl,rfl⟩ | ⟨rfl,rfl⟩ | hn
 all_goals first | (rw [hn] at h;cases h;done) | (simp [aW] at h;subst h;decide)
theorem oV {x:Ac} (h:aN x=0): ∃ l,aW x.kd x.ek=some l:=by
 rcases hf:aW x.kd x.ek with _ | l
 ·rw [Ow hf] at h;cases h
 exact ⟨l,rfl⟩
theorem JN {x:Ac} (h:aN x=0):(jK x).length<=117:=by
 obtain ⟨l,hf⟩:=oV h;rw [DF hf];have hl:=zD hf;have gen: ∀ (l:List (Nat×Int)) (s:List UInt8),(∀ p∈l,0<=x.get p.1/\x.get p.1<=1073741824)->(l.foldl (Ht x) s).length<=s.length+22*l.length:=by
  intro l
  induction l with
  | nil=>intro s _;exact Nat.le_refl _
  | cons p l ih=>
   intro s hp;have h1:=ih (Ht x s p) (λq hq=>hp q (List.mem_cons_of_mem _ hq));have h2:=hp p (List.mem_cons_self ..);have h3:=Lib.itoa_length_le (x.get p.1) (by omega) (by omega);have h4:(Ht x s p).length=s.length+((Lib.itoa (x.get p.1)).length+1):=by simp [Ht]
   rw [List.foldl_cons,List.length_cons];omega
 have:=gen l (Ph x) (λp hp=>⟨(yY hf h p hp).1,Int.le_trans (yY hf h p hp).2 (Im hf p hp)⟩);have hw:=MX x;unfold oU;omega
def nU:List Ac->Nat->List UInt8->List UInt8×Nat×Int
 | [],_,s=>(s,0,0)
 | x::xs,i,s=>if aN x≠0 then ([],i,aN x) else nU xs (i+1) (s++(jK x++[10]))
def Pj (l:List Ac):List UInt8×Nat×Int:=if l.length>100000 then ([],0,1) else nU l 0 []
section
variable {l:List Ac} {k:Nat} {x:Ac} {s:List UInt8}
theorem MZ {α:Type} {l:List α} {k:Nat} {x:α} (h:l[k]? =some x):l.drop k=x::l.drop (k+1):=by
 obtain ⟨hk,rfl⟩:=List.getElem?_eq_some_iff.1 h;exact List.drop_eq_getElem_cons hk
theorem aem (h:l[k]? =some x) (hf: ¬ aN x=0):nU (l.drop k) k s=([],k,aN x):=by rw [MZ h,nU,if_pos hf]
theorem Za (h:l[k]? =some x) (hf:aN x=0):nU (l.drop k) k s=nU (l.drop (k+1)) (k+1) (s++(jK x++[10])):=by rw [MZ h,nU,if_neg (by simp [hf])]
theorem aen (h:l.length<=k):nU (l.drop k) k s=(s,0,0):=by rw [List.drop_of_length_le h,nU]
theorem aeo (h:(100000:Int)< (l.length:Int)):Pj l=([],0,1):=if_pos (by omega)
theorem XT (h: ¬ (100000:Int)< (l.length:Int)):Pj l=nU l 0 []:=if_neg (by omega)
end
def ab1 (w:World) (s:List UInt8) (e:Ending) (w':World):Prop:=e= .returned (str s)/\Below w.heap.size w w'
def aer (w:World) (r:List UInt8×Nat×Int) (e:Ending) (w':World):Prop:=e= .returned (.tuple #[str r.1,.int .i64 ((r.2.1:Nat):Int),.int .i64 r.2.2])/\Below w.heap.size w w'
def Bf (w:World):Prop:=Lib.TabBelow Tryz.prog w.heap.size w afT .u64 Lib.pow10Tab
theorem Bf.on {w w':World} (h:Bf w) (hb:Below w.heap.size w w'):Bf w':=λw2 h2=>h w2 (hb.trans (h2.mono hb.size))
theorem Zb (n:Int) (h0: -9223372036854775808<=n) (h1:n<=9223372036854775807) (w:World) (ht:Bf w):Calls Tryz.prog 20 #[.int .i64 n] w (ab1 w (Lib.itoa n)):=
 (VG n h0 h1 w ht.here).mono λe w' h=>by
  obtain ⟨rfl,k,os,rfl⟩:=h;exact ⟨rfl,below_regrown w _ os⟩
end Go.Proofs.YtcomidffhiilcaaGreatDoor
