import Derived.Test.YtceeleolddkibaaGreatDoorG24d17
import Derived.Test.YtceeleolddkibaaGreatDoorG53fe2
import Derived.Test.YtceeleolddkibaaGreatDoorGac504
set_option linter.all false
set_option maxRecDepth 100000
set_option maxHeartbeats 8000000
namespace Go.Proofs.YtceeleolddkibaaGreatDoor
open List Nat Go.Proofs.Tryz ChangeShapes WideShapes RowKit
section
variable {m mm:Cl}{n q k:Nat}{a:Ac}{PW:Pl×Int}{T S fP K:Nat}{x:bY}{fl:List bY}
def apa(h:aN m.off q=PW):∃nn,nn<5/\(PW.2=0->PW.1.node=((nn:Nat):Int)):=by
 subst h;by_cases c:(aN m.off q).2=0
 ·obtain⟨h1,I,_⟩:=qd (λh=>h c);exact⟨_,h1,λ_=>by omega⟩
 exact⟨0,by omega,λh=>av h c⟩
def akO(h:eF m T S fP K):eF {m with PI:=[]} (T+0) S (fP+0) K:=by
 refine⟨h.jO,λl I=>(by simp at I),h.jC,?_,h.bH,h.bZ,h.turn,h.calls⟩;have:=h.room;unfold Cl.tot at this⊢;dsimp only[length_nil];omega
def akP(h:fl[k]? =some x):(fl.drop k).foldl Cl.QG mm=(fl.drop (k+1)).foldl Cl.QG (mm.QG x):=by rw[U2 h,wJ]
def akQ(h:a.kd=1)(hn:a.nd=(n:Int))(I:a.qu=(q:Int)):m.UN a=m.make n q:=by
 unfold Cl.UN;rw[aj h,hn,I,dW,dW]
def akR(h:a.kd=2)(I:a.qu=(q:Int)):m.UN a={m with PI:=m.PI++[ze a.nd q a.op m.calls],calls:=m.calls+1}:=by
 unfold Cl.UN;rw[ah Y,aj h,I,dW]
def akS(h:a.kd=3)(hn:a.nd=(n:Int)):m.UN a=m.step n:=by
 unfold Cl.UN;rw[ah Y,ah Y,aj h,hn,dW]
def NZ(h:a.kd=4\/a.kd=5\/a.kd=6):m.UN a=m.pick a.at_.toNat (decide (a.kd≠5)) (decide (a.kd=6)):=by
 unfold Cl.UN;rw[ah Y,ah Y,ah Y,aj h]
def apb(h:a.kd=4):m.UN a=m.pick a.at_.toNat true false:=by rw[NZ (.inl h),h];rfl
def apc(h:a.kd=5):m.UN a=m.pick a.at_.toNat false false:=by rw[NZ (.inr (.inl h)),h];rfl
def apd(h:a.kd=6):m.UN a=m.pick a.at_.toNat true true:=by rw[NZ (.inr (.inr h)),h];rfl
def ape(h:a.kd=7):m.UN a=m.all:=by
 unfold Cl.UN;rw[ah Y,ah Y,ah Y,ah Y,aj h]
def Te(h:a.kd=8)(hn:a.nd=(n:Int)):m.UN a=m.Vz n a.kp:=by
 unfold Cl.UN;rw[ah Y,ah Y,ah Y,ah Y,ah Y,aj h,hn,dW]
def agR(h:a.kd=9)(hn:a.nd=(n:Int)):m.UN a=m.start n:=by
 unfold Cl.UN;rw[ah Y,ah Y,ah Y,ah Y,ah Y,ah Y,aj h,hn,dW]
def agS(h:a.kd≠1)(I:a.kd≠2)(J:a.kd≠3)(h4:a.kd≠4)(h5:a.kd≠5)(h6:a.kd≠6)(M:a.kd≠7)(O:a.kd≠8)(Z:a.kd≠9)(hq:a.qu=(q:Int)):m.UN a=m.move q a.nd:=by
 unfold Cl.UN;rw[ah h,ah I,ah J,ah Y,ah M,ah O,ah Z,hq,dW]
def akT(h:(m.au n).up=true){kp:Int}:m.Vz n kp=m.put n ((m.au n).Vb kp):=aj h
def agT(h:(m.au n).up=false){kp:Int}:m.Vz n kp=m:=by
 unfold Cl.Vz;rw[ah (by rw[h];simp)]
end
def akU{K:CK}{B n kn kw:Nat}{w0 w:World}{fs:List Nf}{m:Cl}{H:List LX}{q k:Nat}{a:Ac}(hn:n<5)(hq:q<4)(hnd:a.nd=(n:Int))(hqd:a.qu=(q:Int))(J:K.nb n=kn)(M:K.wb=kw)(O:Uk B w0)(HW:Wd K B w0 w fs m H)(I:eF m (4*k) (500000*k) (500000*k) k)(hk:k<=100000)(ha:Ko a)(hsh:U8 m):
 Calls prog 19 #[pV kw 0,.agg (aR a)] w (λe w'=>e=.returned (.tuple #[])/\Wd K B w0 w' fs (m.UN a) H):=by
 obtain⟨R,G,S0⟩:=HW.open hn;have hfl:R.fx.length=m.PI.length:=by rw[<-G.PI,gK]
 have NG:=G.jO n hn;obtain⟨X,hX⟩:∃X,m.au n=X:=⟨_,E⟩;obtain⟨z,hz⟩:∃z,R.nx n=z:=⟨_,E⟩;rw[hX,hz]at S0 NG;have hL:∀f∈R.L,f∈iM K R m fs n:=λf h=>aL _ (aL _ h);obtain⟨rr,Z⟩:∃r,iM K R m fs n=r:=⟨_,E⟩;rw[Z]at S0 hL;have S:St B w0 w ((bN kn n X.up z.tA X.data z.tc X.Qr z.bb X.QC X.QA z.iA z.ix z.ic z.pv X.turn)::(oB z.bb z.bx)::(fL z.iA z.ix z.ic)::(bW kw (.slice R.nA 5 R.nc) m.off R.fA R.fx R.fc m.Qx R.sA m.bH R.sc R.tA m.bZ R.tc m.calls)::(oL R.fA R.fx R.fc)::(oS R.sA m.bH R.sc)::(oT R.tA m.bZ R.tc)::rr):=by subst J;subst M;exact S0
 clear S0 HW;have hlen:=(S.own 1 E).1;rw[jF (sz:=6) (λ_=>E)]at hlen;obtain⟨ab,ao,uG⟩:=ET G.arr S (Qw 7 E hL);have harr:=G.arr;rw[uG]at S harr;have hcl:=I.calls;have aPl:=I.fl;have asJ:a.at_=(a.at_.toNat:Int):=by have:=ha.at_;omega
 refine iW 144 Tryz.func19 ?_;refine cw [0,1] ?_;refine zN 2 ?_;refine jM S ?_;intro b1 w2 S3;refine zN 11 ?_;by_cases h4:a.kd=1
 ·refine zN 5 ?_;have S5:St B w0 w2 [.Pj b1 (aR a) 55]:=S3.sub (Sublist.cons_cons _ (nil_sublist _));have ZC:=S3.drew;have S6:=S5.drew;refine aO 12 S6 [] ?_;refine aP 5 ?_;refine ak (v:=D (n:Int)) 6 E S6 (λ_ asy=>(EU hnd (ay E E (aV (St.cl 0 asy E E))))) ?_;refine eH ?_;refine ak (v:=D (q:Int)) 10 E S6 (λ_ aru=>(EU hqd (ay E E (aV (St.cl 0 aru E E))))) ?_;refine bG 4 ?_;refine ko (i:=4) E E (v:=.slice (aD ab ao) 5 R.nc) (wn E) E E (ay E E (aV (St.cl 4 ZC E Db))) ?_;refine eH ?_;refine ak 7 E S6 (λ_ _=>mY n) ?_;refine bG 8 ?_;refine ko (i:=8) E E (v:=pV kn 0) (wn E) E E (ay E E (aV (J▸yY harr hn ZC (Qw 8 E hL)))) ?_;refine eH ?_;refine bG 11 ?_;have rX:=ZC.fJ [7,7,7,7,7,7,7];have uD:=rX;rw[<-uG]at uD;have asI:=Wd.eU (m:=m) (m':=m) (H:=H) (H':=H) (fs:=(.Pj b1 (aR a) 55)::fs) (X':=X) (z':=z) (Ls:=[]) (fA:=R.fA) (fc:=R.fc) (fx:=R.fx) (sA:=R.sA) (sc:=R.sc) (tA:=R.tA) (tc:=R.tc) (rr:=(.Pj b1 (aR a) 55)::rr) J M (by rw[<-Z]<;>rfl) G hn uD NG.more (λu O=>.inl O) (aJ hX).symm G.PI.symm mI;refine lN 11 E eQ (abX hn J M O (by have:=I.fl;omega) (by have:=I.bH;omega) hq asI (I.jO n hn).nE (λrs d h=>(I.jO n hn).aHv h)) ?_;rintro _ w20 ⟨rfl,ayZ⟩;refine⟨_,E,?_⟩;have yj:=Wd.KZ (gs:=[.Pj b1 (aR a) 55]) ayZ;refine aP 2 ?_;refine dD (l':=[]) trivial (jA (ru ?_));rw[akQ ‹_› hnd hqd];exact⟨E,(Wd.less (gs:=[.Pj b1 (aR a) 55]) ayZ)⟩
 refine zN 7 ?_;by_cases h22:a.kd=2
 ·refine zN 6 ?_;have rJ:=S3.fJ [5,5];have mG:=rJ.drew;refine aO 14 mG [1,0] ?_;refine aP 4 ?_;refine ak (v:=D (q:Int)) 4 E (mG.sZ [1,0]) (λ_ agw=>(EU hqd (ay E E (aV (St.cl 0 agw E E))))) ?_;refine eH ?_;refine ak (v:=.agg #[D a.ek,D a.ep,D a.ei,D a.eb,D a.eh,D a.en]) 6 E (mG.sZ [1,0]) (λ_ ae0=>(ay E E (eZ (cs:=[D a.ek,D a.ep,D a.ei,D a.eb,D a.eh,D a.en]) (St.rg 0 ae0 E (qW (x:=5) (m:=6) E))))) ?_;refine aP 4 ?_;refine bG 11 ?_;refine ko (i:=11) E E (v:=D (m.calls:Int)) (wn E) E E (ay E E (aV (St.cl 0 mG E aqu))) ?_;refine eH ?_;refine ak (v:=.agg #[D 0,D (-1),D a.nd,D (q:Int),D 0,D 0,D 0,D a.ek,D a.ep,D a.ei,D a.eb,D a.eh,D a.en,.slice none 0 0,.bool false,D (m.calls:Int),D 0,D 0,D 0,D 0,D 0,D 0,D 0]) 12 E (mG.sZ [1,0]) (λ_ _=>iE) ?_;refine bG 13 ?_;refine lN 13 E eQ (jg (x:=⟨ze a.nd q a.op m.calls,none,0⟩) mG (by have:=I.fl;omega)) ?_;rintro _ w41 ⟨rfl,A37,c38,ax5,asa,Hr⟩;refine⟨_,E,?_⟩;refine aP 2 ?_;refine zN 6 ?_;refine vv (ay E E (aV (St.cl 0 Hr E aqu))) ?_;refine vv (v:=D ((m.calls+1:Nat):Int)) jB ?_;refine zN 3 ?_;refine kU 0 Hr kQ ?_ (hs:=by exact aAn);intro w43 Fq;refine zQ ?_;refine dD (l':=[]) trivial (jA (ru ?_));rw[akR ‹_› hqd];subst asa;have tO:=Fq.bg [2];have zF:=tO.fJ [6,6,3,3,6,6,6];rw[<-uG]at zF;exact⟨E,Wd.eU (X':=X) (z':=z) (Ls:=[]) (fA:=A37) (fc:=c38) (fx:=R.fx++[(⟨ze a.nd q a.op m.calls,none,0⟩:LX)]) (sA:=R.sA) (sc:=R.sc) (tA:=R.tA) (tc:=R.tc) J M Z G hn zF NG.more (rE (jW E)) (aJ hX).symm (by rw[gX,G.PI];rfl) mI⟩
 refine zN 7 ?_;by_cases h47:a.kd=3
 ·refine zN 5 ?_;have Dh:St B w0 w2 [.Pj b1 (aR a) 55]:=S3.sub (Sublist.cons_cons _ (nil_sublist _));have ZC:=S3.drew;have yT:=Dh.drew;refine aO 10 yT [] ?_;refine aP 5 ?_;refine ak (v:=D (n:Int)) 6 E yT (λ_ asc=>(EU hnd (ay E E (aV (St.cl 0 asc E E))))) ?_;refine bG 4 ?_;refine ko (i:=4) E E (v:=.slice (aD ab ao) 5 R.nc) (wn E) E E (ay E E (aV (St.cl 4 ZC E Db))) ?_;refine eH ?_;refine ak 7 E yT (λ_ _=>mY n) ?_;refine bG 8 ?_;refine ko (i:=8) E E (v:=pV kn 0) (wn E) E E (ay E E (aV (J▸yY harr hn ZC (Qw 8 E hL)))) ?_;refine eH ?_;refine bG 9 ?_;have yR:=ZC.fJ [7,7,7,7,7,7,7];have Ez:=yR;rw[<-uG]at Ez;have aHC:=Wd.eU (m:=m) (m':=m) (H:=H) (H':=H) (fs:=(.Pj b1 (aR a) 55)::fs) (X':=X) (z':=z) (Ls:=[]) (fA:=R.fA) (fc:=R.fc) (fx:=R.fx) (sA:=R.sA) (sc:=R.sc) (tA:=R.tA) (tc:=R.tc) (rr:=(.Pj b1 (aR a) 55)::rr) J M (by rw[<-Z]<;>rfl) G hn Ez NG.more (λu O=>.inl O) (aJ hX).symm G.PI.symm mI;refine lN 9 E eQ (abW hn J M O (by have:=I.fi hn;omega) (by have:=I.bH;have:=I.il hn;omega) (by have:=I.turn n hn;omega) aHC (I.jO n hn).nE (λl hl=>nu (I.jC n hn l hl)) (λp h=>(I.jO n hn).fit h)) ?_;rintro _ w61 ⟨rfl,ay0⟩;refine⟨_,E,?_⟩;have MR:=Wd.KZ (gs:=[.Pj b1 (aR a) 55]) ay0;refine aP 2 ?_;refine dD (l':=[]) trivial (jA (ru ?_));rw[akS ‹_› hnd];exact⟨E,(Wd.less (gs:=[.Pj b1 (aR a) 55]) ay0)⟩
 refine zN 8 ?_;by_cases h63:a.kd=4
 ·refine zN 11 ?_;refine vv (v:=D (a.at_.toNat:Int)) (EU asJ (ay E E (aV (St.cl 0 S3 E E)))) ?_;refine zN 6 ?_;have S64:=S3.fJ [7,7,7,7,7,7,7];have Jq:=S64;rw[<-uG]at Jq;have aHD:=Wd.eU (m:=m) (m':=m) (H:=H) (H':=H) (fs:=(.Pj b1 (aR a) 55)::fs) (X':=X) (z':=z) (Ls:=[]) (fA:=R.fA) (fc:=R.fc) (fx:=R.fx) (sA:=R.sA) (sc:=R.sc) (tA:=R.tA) (tc:=R.tc) (rr:=(.Pj b1 (aR a) 55)::rr) J M (by rw[<-Z]<;>rfl) G hn Jq NG.more (λu O=>.inl O) (aJ hX).symm G.PI.symm mI;refine eB eQ (GD hn J M O (by have:=I.fl;omega) (by have:=I.bZ;omega) (λj hj=>by have:=I.il hj;omega) aHD (λl hl=>(I.nT l hl).tgt)) ?_;rintro _ w68 ⟨rfl,ay1⟩;refine⟨_,E,?_⟩;have Df:=Wd.KZ (gs:=[.Pj b1 (aR a) 55]) ay1;refine zQ ?_;refine dD (l':=[]) trivial (jA (ru ?_));rw[apb ‹_›];exact⟨E,(Wd.less (gs:=[.Pj b1 (aR a) 55]) ay1)⟩
 refine zN 7 ?_;by_cases h70:a.kd=5
 ·refine zN 11 ?_;refine vv (v:=D (a.at_.toNat:Int)) (EU asJ (ay E E (aV (St.cl 0 S3 E E)))) ?_;refine zN 6 ?_;have wo:=S3.fJ [7,7,7,7,7,7,7];have xu:=wo;rw[<-uG]at xu;have aHE:=Wd.eU (m:=m) (m':=m) (H:=H) (H':=H) (fs:=(.Pj b1 (aR a) 55)::fs) (X':=X) (z':=z) (Ls:=[]) (fA:=R.fA) (fc:=R.fc) (fx:=R.fx) (sA:=R.sA) (sc:=R.sc) (tA:=R.tA) (tc:=R.tc) (rr:=(.Pj b1 (aR a) 55)::rr) J M (by rw[<-Z]<;>rfl) G hn xu NG.more (λu O=>.inl O) (aJ hX).symm G.PI.symm mI;refine eB eQ (GD hn J M O (by have:=I.fl;omega) (by have:=I.bZ;omega) (λj hj=>by have:=I.il hj;omega) aHE (λl hl=>(I.nT l hl).tgt)) ?_;rintro _ w75 ⟨rfl,ay2⟩;refine⟨_,E,?_⟩;have Qj:=Wd.KZ (gs:=[.Pj b1 (aR a) 55]) ay2;refine zQ ?_;refine dD (l':=[]) trivial (jA (ru ?_));rw[apc ‹_›];exact⟨E,(Wd.less (gs:=[.Pj b1 (aR a) 55]) ay2)⟩
 refine zN 6 ?_;by_cases h77:a.kd=6
 ·refine zN 8 ?_;refine vv (v:=D (a.at_.toNat:Int)) (EU asJ (ay E E (aV (St.cl 0 S3 E E)))) ?_;refine zN 6 ?_;have MV:=S3.fJ [7,7,7,7,7,7,7];have EF:=MV;rw[<-uG]at EF;have aHF:=Wd.eU (m:=m) (m':=m) (H:=H) (H':=H) (fs:=(.Pj b1 (aR a) 55)::fs) (X':=X) (z':=z) (Ls:=[]) (fA:=R.fA) (fc:=R.fc) (fx:=R.fx) (sA:=R.sA) (sc:=R.sc) (tA:=R.tA) (tc:=R.tc) (rr:=(.Pj b1 (aR a) 55)::rr) J M (by rw[<-Z]<;>rfl) G hn EF NG.more (λu O=>.inl O) (aJ hX).symm G.PI.symm mI;refine eB eQ (GD hn J M O (by have:=I.fl;omega) (by have:=I.bZ;omega) (λj hj=>by have:=I.il hj;omega) aHF (λl hl=>(I.nT l hl).tgt)) ?_;rintro _ w82 ⟨rfl,ay3⟩;refine⟨_,E,?_⟩;have F5:=Wd.KZ (gs:=[.Pj b1 (aR a) 55]) ay3;refine zQ ?_;refine dD (l':=[]) trivial (jA (ru ?_));rw[apd ‹_›];exact⟨E,(Wd.less (gs:=[.Pj b1 (aR a) 55]) ay3)⟩
 refine zN 7 ?_;by_cases h84:a.kd=7
 ·refine zN 10 ?_;refine vv (ay E E (aV (St.cl 4 S3 E V8))) ?_;refine zN 8 ?_;refine kU 4 S3 kQ ?_ (hs:=by exact ar8);intro w85 CQ;refine zN 10 ?_;have Ga:=CQ.bg [0];have Ql:=Ga.nil 113 23;have Qk:=((((((((Ql.bring 5 E).bring 7 E).bring 7 E).bring 3 E).bring 7 E).bring 7 E).bring 7 E).bring 7 E);rw[<-uG]at Qk;obtain⟨m1,hm1⟩:∃k,k=({m with PI:=[]}:Cl):=⟨_,E⟩;have HW1:Wd K B w0 w85 ((oL R.fA R.fx R.fc)::fs) m1 (R.fx++H):=by
   rw[hm1];exact Wd.eU (m:=m) (H:=H) (fs:=(oL R.fA R.fx R.fc)::fs) (X':=X) (z':=z) (Ls:=[]) (fA:=none) (fc:=0) (fx:=[]) (sA:=R.sA) (sc:=R.sc) (tA:=R.tA) (tc:=R.tc) (rr:=(oL R.fA R.fx R.fc)::rr) J M (by rw[<-Z];rfl) G hn Qk NG.more (λu O=>by simp at O) (aJ hX).symm E (λu O=>(bD.1 O).elim (λh=>.inr ((G.flo u h).mono λf hf=>bO _ hf)) .inl)
  have hB0:=akO I;rw[<-hm1]at hB0;refine fV (X:=Nat×Cl) (λxv=>[(0,pV kw 0),(90,.slice R.fA R.fx.length R.fc),(91,D (R.fx.length:Int)),(92,D (xv.1:Int))]) (λxv wr=>(Wd K B w0 wr ((oL R.fA R.fx R.fc)::fs) xv.2 (R.fx.drop xv.1++H))/\(m.PI.foldl Cl.QG m1=(m.PI.drop xv.1).foldl Cl.QG xv.2)/\(xv.1<=R.fx.length)/\(eF xv.2 (4*k+xv.1) (500000*k) (500000*k+xv.1) k)/\St B w0 wr [.own 113 23 (.slice R.fA R.fx.length R.fc) R.fx.length ((R.fx).flatMap LX.cells)]) (λxv=>R.fx.length-xv.1) (0,m1) ?_ ?_ ?_
  ·exact⟨HW1,E,aC _,hB0,Wd.KZ (gs:=[.own 113 23 (.slice R.fA R.fx.length R.fc) R.fx.length ((R.fx).flatMap LX.cells)]) HW1⟩
  ·exact lS
  rintro⟨k2,mm⟩ w90 ⟨asK,asL,aHG,agU,U5⟩
  try dsimp only at asK asL aHG agU U5
  refine bK (l':=[(0,pV kw 0),(90,.slice R.fA R.fx.length R.fc),(91,D (R.fx.length:Int)),(92,D (k2:Int))]) lS ?_;obtain⟨R3,G3,Zz⟩:=asK.open hn;have Xx:=G3.jO n hn;obtain⟨X3,Xy⟩:∃X,mm.au n=X:=⟨_,E⟩;obtain⟨z3,hz3⟩:∃z,R3.nx n=z:=⟨_,E⟩;rw[Xy,hz3]at Zz Xx;obtain⟨rr3,MF⟩:∃r,iM K R3 mm fs n=r:=⟨_,E⟩;have EG:St B w0 w90 ((bN kn n X3.up z3.tA X3.data z3.tc X3.Qr z3.bb X3.QC X3.QA z3.iA z3.ix z3.ic z3.pv X3.turn)::(oB z3.bb z3.bx)::(fL z3.iA z3.ix z3.ic)::(bW kw (.slice R3.nA 5 R3.nc) mm.off R3.fA R3.fx R3.fc mm.Qx R3.sA mm.bH R3.sc R3.tA mm.bZ R3.tc mm.calls)::(oL R3.fA R3.fx R3.fc)::(oS R3.sA mm.bH R3.sc)::(oT R3.tA mm.bZ R3.tc)::(oL R.fA R.fx R.fc)::rr3):=by rw[<-MF];subst J;subst M;exact Zz
  clear Zz;refine zN 2 ?_;by_cases h97:(k2:Int)< (R.fx.length:Int)
  ·refine zN 10 ?_;obtain⟨x,hx⟩:∃x,R.fx[k2]? =some x:=⟨_,dJ Y⟩;have hxf:m.PI[k2]? =some x.l:=by rw[<-G.PI,qX,hx];rfl
   have hxb:=I.nT x.l (jm hxf);refine zQ ?_;obtain⟨fb,fo,hfA⟩:=rd_some (St.Vj 7 EG E) Y;refine vv (v:=pV fb (fo+k2*23)) (aQ E E E (mJ k2 hfA Tryz.underlying81 kQ Y Y)) ?_;refine vv (v:=.agg (LX.row x)) (ay E E (eZ (cs:=LX.cells x) (λj u O=>by rw[jT];exact MC (St.Vj 7 EG E) hfA (dw (enc:=LX.cells) (sz:=23) (k:=k2) (λ_=>E) hx O)))) ?_;refine iL EG ahf ?_;intro b98 w99 xM;refine stA 0 xM kQ ?_ (h1:=H8 _);intro arC uz;refine zN 5 ?_;have wV:=uz.bg [0];have aBg:=Wd.eU (m:=mm) (m':=mm) (H:=R.fx.drop k2++H) (H':=x::(R.fx.drop (k2+1)++H)) (fs:=(oL R.fA R.fx R.fc)::fs) (X':=X3) (z':=z3) (Ls:=[]) (fA:=R3.fA) (fc:=R3.fc) (fx:=R3.fx) (sA:=R3.sA) (sc:=R3.sc) (tA:=R3.tA) (tc:=R3.tc) (rr:=(oL R.fA R.fx R.fc)::rr3) J M (by rw[<-MF];rfl) G3 hn ((((((((wV.bring 7 E).bring 7 E).bring 7 E).bring 7 E).bring 7 E).bring 7 E).bring 7 E).bring 7 E) Xx.more (λu O=>.inl O) (aJ Xy).symm G3.PI.symm (by rw[U2 hx];exact mI);obtain⟨jj,hjj,htt⟩:=hxb.tgt;refine eB eQ (GA (m:=mm) (x:=x) hjj E M O (by have:=(agU).fl;omega) (by have:=(agU).bZ;omega) (by have:=(agU).il hjj;omega) aBg htt) ?_;rintro _ afs ⟨rfl,ahs⟩;refine⟨_,E,?_⟩;obtain⟨mc,hmc⟩:∃k,k=mm.QG x.l:=⟨_,E⟩;have IJ:=Wd.KZ (gs:=[.own 113 23 (.slice R.fA R.fx.length R.fc) R.fx.length ((R.fx).flatMap LX.cells)]) ahs;refine zN 4 ?_;refine vv (v:=D ((k2+1:Nat):Int)) jB ?_;refine zN 2 ?_;refine bQ (k2+1,mc) ?_ lS (by first|omega|(dsimp only;omega));exact⟨(by dsimp only;rw[hmc];exact ahs),(by dsimp only;rw[asL,akP hxf,<-hmc]),uQ,(by dsimp only;rw[hmc];exact(Kq agU hxb).mono Y aB Y aB),(Wd.KZ (gs:=[.own 113 23 (.slice R.fA R.fx.length R.fc) R.fx.length ((R.fx).flatMap LX.cells)]) (hmc▸ahs))⟩
  refine zN 11 ?_;have Ct:m.UN a=mm:=by rw[ape ‹_›];show m.PI.foldl Cl.QG {m with PI:=[]}=mm;rw[<-hm1,asL,sS Y];rfl
  rw[Ct];have aHH:R.fx.length<=k2:=Y;exact⟨E,Wd.less (gs:=[.own 113 23 (.slice R.fA R.fx.length R.fc) R.fx.length ((R.fx).flatMap LX.cells)]) (by have h9:=asK;rw[sS aHH]at h9;exact h9)⟩
 refine zN 7 ?_;by_cases arL:a.kd=8
 ·refine zN 6 ?_;refine iN S3 mixed kQ ?_;refine zN 3 ?_;refine uv (v:=.slice (aD ab ao) 5 R.nc) (λ_ aBh=>(ay E E (aV (St.cl 4 aBh E Db)))) ?_;refine zQ ?_;refine uv (v:=D (n:Int)) (λ_ aBi=>(EU hnd (ay E E (aV (St.cl 0 aBi E E))))) ?_;refine uv (λ_ _=>mY n) ?_;refine uv (v:=pV kn 0) (λ_ aBj=>(ay E E (aV (J▸yY harr hn aBj (Qw 8 E hL))))) ?_;refine zQ ?_;refine iw λalu yI=>?_;refine zN 9 ?_
  cases aJ2:(X.up)
  ·refine bK (l':=[(3,pV b1 0),(7,pV kn 0),(113,.bool false)]) Jh (oD E (uH (jA (ru ?_))));have Ki:=yI.bg [0];have CY:=Ki;rw[<-uG]at CY;have aBk:=Wd.eU (m:=m) (m':=m) (H:=H) (H':=H) (fs:=fs) (X':=X) (z':=z) (Ls:=[]) (fA:=R.fA) (fc:=R.fc) (fx:=R.fx) (sA:=R.sA) (sc:=R.sc) (tA:=R.tA) (tc:=R.tc) (rr:=rr) J M (by rw[<-Z]<;>rfl) G hn CY NG.more (λu O=>.inl O) (aJ hX).symm G.PI.symm mI;rw[Te ‹_› hnd,agT (by rw[hX];assumption)];exact⟨E,aBk⟩
  refine bK (l':=[(3,pV b1 0),(7,pV kn 0),(113,.bool true)]) Jh (oC E (aX ?_));have R9:=yI.drew;refine aO 14 R9 [1] ?_;refine aP 6 ?_;refine bG 4 ?_;refine ko (i:=4) E E (v:=.agg #[.slice z.tA X.data.length z.tc,D X.Qr]) (wn E) E E (ay E E (eZ (cs:=[.slice z.tA X.data.length z.tc,D X.Qr]) (St.rg 1 R9 E (vI)))) ?_;refine eH ?_;refine bG 7 ?_;refine lN 7 E eQ (D5 (Yt z.tA X.data.length z.tc X.data X.Qr a.kp _ (NG.AX.rd R9 (Qw 8 E hL)))) ?_;rintro _ ae2 ⟨alS,asM,rfl,aHI⟩;refine⟨_,E,?_⟩;have CZ:=R9.ext aHI E;refine aP 6 ?_;refine bG 13 ?_;refine snz (row':=eP n X.up (.slice alS ((rY X.data X.Qr a.kp).1.length) asM) ((rY X.data X.Qr a.kp).2.1) (.slice (aD z.bb 0) 4 4) X.QC X.QA (.slice z.iA z.ix.length z.ic) (z.pv) X.turn) 13 E 2 CZ kQ ?_;intro ax2 LV;refine aP 2 ?_;refine zN 6 ?_;refine kU (row':=eP n false (.slice alS ((rY X.data X.Qr a.kp).1.length) asM) ((rY X.data X.Qr a.kp).2.1) (.slice (aD z.bb 0) 4 4) X.QC X.QA (.slice z.iA z.ix.length z.ic) (z.pv) X.turn) 2 LV kQ ?_;intro aEl ZX;refine zN 4 ?_;have Po:=ZX.fJ [2];refine eB eQ (qw Po O) ?_;rintro _ awY ⟨rfl,aBl,Rv⟩;refine⟨_,E,?_⟩;have zq:=Rv.bg [5,4,3];refine zQ ?_;refine dD (l':=[]) trivial (jA (ru ?_));rw[Te ‹_› hnd,akT (by rw[hX];assumption)];have af5:=zq.Fb 113 23;have Rx:=af5.fJ [7,7,7,7,4,6,6];rw[<-uG]at Rx;exact⟨E,Wd.eU (X':=X.Vb a.kp) (z':={bb:=aBl,tA:=alS,tc:=asM,bx:=vZ,iA:=none,ic:=0,ix:=[],pv:=.nilFunc}) (Ls:=[.dB 1 alS ((rY X.data X.Qr a.kp).1.length) (JV ((rY X.data X.Qr a.kp).1))]) (fA:=R.fA) (fc:=R.fc) (fx:=R.fx) (sA:=R.sA) (sc:=R.sc) (tA:=R.tA) (tc:=R.tc) J M Z G hn Rx ⟨E,SS,Ro.dB (aL _ (aI.2 E)),E,λy hy=>(by cases hy),E⟩ (λu O=>.inl O) (by rw[hX];rfl) G.PI.symm mI⟩
 refine zN 7 ?_;by_cases aPm:a.kd=9
 ·refine zN 5 ?_;have afD:St B w0 w2 [.Pj b1 (aR a) 55]:=S3.sub (Sublist.cons_cons _ (nil_sublist _));have ZC:=S3.drew;have PG:=afD.drew;refine aO 10 PG [] ?_;refine aP 5 ?_;refine ak (v:=D (n:Int)) 6 E PG (λ_ ahl=>(EU hnd (ay E E (aV (St.cl 0 ahl E E))))) ?_;refine bG 4 ?_;refine ko (i:=4) E E (v:=.slice (aD ab ao) 5 R.nc) (wn E) E E (ay E E (aV (St.cl 4 ZC E Db))) ?_;refine eH ?_;refine ak 7 E PG (λ_ _=>mY n) ?_;refine bG 8 ?_;refine ko (i:=8) E E (v:=pV kn 0) (wn E) E E (ay E E (aV (J▸yY harr hn ZC (Qw 8 E hL)))) ?_;refine eH ?_;refine bG 9 ?_;have L6:=ZC.fJ [7,7,7,7,7,7,7];have aae:=L6;rw[<-uG]at aae;have aat:=Wd.eU (m:=m) (m':=m) (H:=H) (H':=H) (fs:=(.Pj b1 (aR a) 55)::fs) (X':=X) (z':=z) (Ls:=[]) (fA:=R.fA) (fc:=R.fc) (fx:=R.fx) (sA:=R.sA) (sc:=R.sc) (tA:=R.tA) (tc:=R.tc) (rr:=(.Pj b1 (aR a) 55)::rr) J M (by rw[<-Z]<;>rfl) G hn aae NG.more (λu O=>.inl O) (aJ hX).symm G.PI.symm mI;refine lN 9 E eQ (YV hn J M O (by have:=I.fl;omega) (by have:=I.bH;omega) aat (I.jO n hn).VF.1 (I.jO n hn).VF.2.1 (I.jO n hn).VF.2.2.1 (I.jO n hn).VF.2.2.2 hsh) ?_;rintro _ aDM ⟨rfl,aqY⟩;refine⟨_,E,?_⟩;have awL:=Wd.KZ (gs:=[.Pj b1 (aR a) 55]) aqY;refine aP 2 ?_;refine dD (l':=[]) trivial (jA (ru ?_));rw[agR ‹_› hnd];exact⟨E,(Wd.less (gs:=[.Pj b1 (aR a) 55]) aqY)⟩
 refine zN 8 ?_;refine vv (v:=D (q:Int)) (EU hqd (ay E E (aV (St.cl 0 S3 E E)))) ?_;refine zN 2 ?_;obtain⟨PW,hPW⟩:∃r,aN m.off q=r:=⟨_,E⟩;obtain⟨nn,hnn,hwn⟩:=apa hPW;have arP:=S3.fJ [7,7,7,7,7,7,7];have ZR:=arP;rw[<-uG]at ZR;have aBm:=Wd.eU (m:=m) (m':=m) (H:=H) (H':=H) (fs:=(.Pj b1 (aR a) 55)::fs) (X':=X) (z':=z) (Ls:=[]) (fA:=R.fA) (fc:=R.fc) (fx:=R.fx) (sA:=R.sA) (sc:=R.sc) (tA:=R.tA) (tc:=R.tc) (rr:=(.Pj b1 (aR a) 55)::rr) J M (by rw[<-Z]<;>rfl) G hn ZR NG.more (λu O=>.inl O) (aJ hX).symm G.PI.symm mI;refine eB eQ (abY hnn E M O (by have:=I.fl;omega) (by have:=I.bH;omega) hq aBm (I.jO nn hnn).nE hPW hwn) ?_;rintro _ ar2 ⟨rfl,aqZ⟩;refine⟨_,E,?_⟩;have Z7:=Wd.KZ (gs:=[.Pj b1 (aR a) 55]) aqZ;refine zQ ?_;refine dD (l':=[]) trivial (jA (ru ?_));rw[agS ‹_› ‹_› ‹_› ‹_› ‹_› ‹_› ‹_› ‹_› ‹_› hqd];exact⟨E,(Wd.less (gs:=[.Pj b1 (aR a) 55]) aqZ)⟩
def zf:List Ac->Int
 |[]=>0
 |a::l=>if dK a≠0 then dK a else zf l
def EY(l:List Ac):Int:=if 100000<l.length then 1 else zf l
section
variable {l:List Ac}{k:Nat}{x:Ac}{fl calls q:Nat}{U:Nat->Bool}{d:UE}{bv sv tv fv nv:Value}{sh:Nat->Nat->Int×Int}{K:CK}{R:CX}{B n:Nat}{w0 w:World}{fs gs N l7 L LC:List Nf}{m:Cl}{H:List LX}{X:Nd}{z:NX}{ps:List (Nat×List BX)}{p:Nat×List BX}{bs:List BX}{bB:Nat}
def avN(h:l[k]? =some x)(I:dK x=0):zf (l.drop k)=zf (l.drop (k+1)):=by rw[U2 h,zf,ah (λe=>e I)]
def apf(h:l[k]? =some x)(I:¬dK x=0):zf (l.drop k)=dK x:=by rw[U2 h,zf,aj I]
def Uo(h:¬ 100000<l.length):EY l=zf l:=ah h
def akV(h:100000<l.length):EY l=1:=aj h
def O5:∀ {l:List Ac},zf l=0-> ∀a∈l,dK a=0
 |[],_,a,ha=>by simp at ha
 |x::l,h,a,ha=>by
  rw[zf]at h
  split at h
  ·rename_i hx;exact av h hx
  rename_i hx
  rcases iR.1 ha with rfl|ha
  ·exact fM.1 hx
  exact O5 h a ha
def apg(h:EY l=0):l.length<=100000/\ ∀a∈l,dK a=0:=by
 unfold EY at h
 split at h
 ·cases h
 exact⟨by omega,O5 h⟩
def aph(h:l[k]? =some x):l.take (k+1)=l.take k++[x]:=by rw[mQ,h];rfl
def akW{m:Cl}{l:List Ac}:m.run (l++[x])=(m.run l).UN x:=by unfold Cl.run;rw[pR];rfl
def JN(fl:Nat)(U:Nat->Bool)(d:UE)(bv sv tv:Value)(calls:Nat):List Value:=
 [D (fl:Int),.bool (U 0),.bool (U 1),.bool (U 2),.bool (U 3),.bool (U 4),D d.p0.node,D d.p0.Pf,D d.p1.node,D d.p1.Pf,D d.p2.node,D d.p2.Pf,D d.p3.node,D d.p3.Pf,bv,sv,tv,D (calls:Int)]
def qM(fl:Nat)(U:Nat->Bool)(d:UE)(bv sv tv:Value)(calls:Nat):Array Value:=(JN fl U d bv sv tv calls).toArray
def apj:Array Value:=oZ
def aq0(h1:bv.oneCell'=true)(I:sv.oneCell'=true)(J:tv.oneCell'=true):∀u∈(qM fl U d bv sv tv calls).toList,u.oneCell'=true:=by
 intro u h;simp only[qM,JN,mem_cons,not_mem_nil,or_false]at h
 rcases h with rfl|rfl|rfl|rfl|rfl|rfl|rfl|rfl|rfl|rfl|rfl|rfl|rfl|rfl|rfl|rfl|rfl|rfl<;>first|rfl|assumption
def aau{VG I o:Nat}{U':Nat->Bool}{d':UE}{J M O:Value}{vs:List Value}(h:o+vs.length<=18)(he:(JN fl U d bv sv tv calls).take o++vs++(JN fl U d bv sv tv calls).drop (o+vs.length)=JN VG U' d' J M O I):
 dP (qM fl U d bv sv tv calls) o vs=qM VG U' d' J M O I:=Array.ext' (by rw[jr _ _ _ h];exact he)
def aHJ{VG:Nat}:dP (qM fl U d bv sv tv calls) 0 [D (VG:Int)]=qM VG U d bv sv tv calls:=aau (fK E) E
def aHK{d':UE}:dP (qM fl U d bv sv tv calls) 6 d'.cells=qM fl U d' bv sv tv calls:=aau (fK E) E
def aq2{x:Value}:dP (qM fl U d bv sv tv calls) 14 [x]=qM fl U d x sv tv calls:=aau (fK E) E
def aBn(h:q<5){v:Bool}:dP (qM fl U d bv sv tv calls) (1+q*1) [.bool v]=qM fl (Qv U q v) d bv sv tv calls:=by
 rcases five h with rfl|rfl|rfl|rfl|rfl<;>exact aau (fK E) E
def apk:∀(j:Nat) (u:Value),(qM 0 (λ_=>false) (⟨⟨0,0⟩,⟨0,0⟩,⟨0,0⟩,⟨0,0⟩⟩:UE) (.slice none 0 0) sv tv calls).toList[j]? =some u->(nG nv d fv sh sv tv calls)[50+j]? =some u:=by
 intro j u h;have J:j<18:=(cK.1 h).1;have I:j=0\/j=1\/j=2\/j=3\/j=4\/j=5\/j=6\/j=7\/j=8\/j=9\/j=10\/j=11\/j=12\/j=13\/j=14\/j=15\/j=16\/j=17:=Y
 rcases I with rfl|rfl|rfl|rfl|rfl|rfl|rfl|rfl|rfl|rfl|rfl|rfl|rfl|rfl|rfl|rfl|rfl|rfl<;>exact h
def lG(p:Nat×List BX):List Value:=[.slice (aD p.1 0) 4 4]
structure P1 (L:List Nf)(m:Cl)(j:Nat)(p:Nat×List BX):Prop where
 rd:Ro L 6 (aD p.1 0) 4 (p.2.flatMap BX.cells)
 bm:p.2.map BX.b=vB (m.au j).view
 bo:∀y∈p.2,EM L y
def P1.mono{L L':List Nf}{m:Cl}{j:Nat}{p:Nat×List BX}(h:P1 L m j p)(I:∀f∈L,f∈L'):P1 L' m j p:=⟨h.rd.mono I,h.bm,λy J=>(h.bo y J).mono I⟩
def aav(L:List Nf)(m:Cl)(row:Array Value):Prop:= ∃(U:Nat->Bool) (BA:Option Addr) (bc:Nat) (sA:Option Addr) (sc:Nat) (tA:Option Addr) (tc:Nat) (ps:List (Nat×List BX)),row=qM m.PI.length U m.off (.slice BA 5 bc) (.slice sA m.bH.length sc) (.slice tA m.bZ.length tc) m.calls/\(∀j,j<5->U j=(m.au j).up)/\ps.length=5/\
 Ro L 1 BA 5 (ps.flatMap lG)/\Ro L 14 sA m.bH.length (m.bH.flatMap l5.cells)/\Ro L 7 tA m.bZ.length (m.bZ.flatMap zH.cells)/\ ∀j p,ps[j]? =some p->P1 L m j p
def Wd.top(h:Wd K B w0 w fs m H):St B w0 w fs:=by
 obtain⟨R,_,S⟩:=h;exact S.sub (G8 _ _)
open Classical in
def St.shut(hn:n<5)(S:St B w0 w (mh K n (m.au n) (R.nx n)++(xU K R m++(gs++iM K R m fs n)))):St B w0 w (gs++(fs++nN K R m)):=by
 refine S.perm (uJ.2 λa=>?_);have h1:=uJ.1 (yC (λj=>mh K j (m.au j) (R.nx j)) hn) a;unfold iM nN og;simp only[List.count_append]at h1⊢;omega
open Classical in
def St.aq3(hn:n<5)(S:St B w0 w (mh K n (m.au n) (R.nx n)++(xU K R m++(gs++((N++(fs++(og K R m n++R.L)))++l7))))):St B w0 w (gs++((l7++N)++(fs++nN K R m))):=by
 refine S.perm (uJ.2 λa=>?_);have h1:=uJ.1 (yC (λj=>mh K j (m.au j) (R.nx j)) hn) a;unfold nN og;simp only[List.count_append]at h1⊢;omega
open Classical in
def St.aHL(hn:n<5)(S:St B w0 w (gs++(N++(fs++nN K R m)))):St B w0 w (mh K n (m.au n) (R.nx n)++(xU K R m++(gs++(N++(fs++(og K R m n++R.L)))))):=by
 refine S.perm (uJ.2 λa=>?_);have h1:=uJ.1 (yC (λj=>mh K j (m.au j) (R.nx j)) hn) a;unfold nN og;simp only[List.count_append]at h1⊢;omega
open Classical in
def St.aBo(S:St B w0 w (gs++(N++(fs++LC)))):St B w0 w ((gs++(N++LC))++fs):=by
 refine S.perm (uJ.2 λa=>?_);simp only[List.count_append];omega
def Tf(J:ps.length=k)(h:∀j p,ps[j]? =some p->P1 L m j p)(hn:P1 L m k p):∀j q,(ps++[p])[j]? =some q->P1 L m j q:=λj q I=>by
 by_cases e:j<ps.length
 ·rw[oz e]at I;exact h j q I
 rw[pK Y]at I;have:j-ps.length=0:=by
  have:=(cK.1 I).1;rw[lZ]at this;omega
 rw[this]at I
 cases I;rw[show j=k by omega];exact hn
def avO(h:k<5)(I:R.nx k=z):Nf.own 58 6 (.slice (aD z.bb 0) 4 4) 4 (z.bx.flatMap BX.cells)∈nN K R m:=by
 subst I;refine aL _ (bO _ (Dx.2 ⟨k,Lh.2 h,?_⟩));exact dZ _ (iT ..)
def apl(h:fC K R.L k (m.au k) (R.nx k))(J:m.au k=X)(I:R.nx k=z)(M:X.up=true)(O:k<5):P1 (N++nN K R m) m k (z.bb,z.bx):=by
 have Z:=avO (K:=K) (m:=m) O I;subst J;subst I;refine⟨Ro.own (aL _ Z),?_,λy hy=>(h.Xc y hy).mono λf hf=>aL _ (aL _ (aL _ hf))⟩;rw[fO M];exact h.Vu
def apm(h:bs.map BX.b=vB (dH X.data X.Qr))(I:∀y∈bs,y.b.JU.length<=y.c)(J:m.au k=X)(M:X.up=false):P1 ((Nf.own 58 6 (.slice (aD bB 0) 4 4) 4 (bs.flatMap BX.cells)::(gL bs++N))++LC) m k (bB,bs):=by
 subst J;refine⟨Ro.own (bO _ (iT ..)),?_,λy O=>(Ta I y O).mono λf Z=>bO _ (dZ _ (bO _ Z))⟩;unfold Nd.view;rw[ah (by rw[M];simp)];exact h
def Xz(h:∀j,j<k->U j=(m.au j).up)(I:m.au k=X):∀j,j<k+1->Qv U k X.up j=(m.au j).up:=λj J=>by
 by_cases e:j=k
 ·rw[e,JR,I]
 rw[Ph e];exact h j Y
def apn{OA:Option Addr}{h:Nat}(G:Good K R m H)(I:ps.length=5)(O:∀j,j<5->U j=(m.au j).up)(J:Nf.own 59 1 (.slice OA ps.length h) ps.length (ps.flatMap lG)∈L)(M:∀f∈nN K R m,f∈L)(Z:∀j p,ps[j]? =some p->P1 L m j p):
 aav L m (qM R.fx.length U m.off (.slice OA ps.length h) (.slice R.sA m.bH.length R.sc) (.slice R.tA m.bZ.length R.tc) m.calls):=by
 rw[I]at J⊢;have hf:R.fx.length=m.PI.length:=by rw[<-G.PI,gK]
 have h1:Nf.own 159 14 (.slice R.sA m.bH.length R.sc) m.bH.length (m.bH.flatMap l5.cells)∈nN K R m:=bO _ (dZ _ (dZ _ (iT ..)));have h2:Nf.own 111 7 (.slice R.tA m.bZ.length R.tc) m.bZ.length (m.bZ.flatMap zH.cells)∈nN K R m:=bO _ (dZ _ (dZ _ (dZ _ (iT ..))));exact⟨U,OA,h,R.sA,R.sc,R.tA,R.tc,ps,by rw[hf],O,I,Ro.own J,Ro.own (M _ h1),Ro.own (M _ h2),Z⟩
end
def agV{B:Nat}{w0 w:World}{fs:List Nf}{A:Option Addr}{c:Nat}{l:List Ac}(S:St B w0 w fs)(hu:Uk B w0)(aaw:Ro fs 11 A l.length (l.flatMap Ac.cells))(hb:l.length*88<=reachBytes):
 Calls prog 11 #[.slice A l.length c] w (λe w'=>(EY l≠0->e=.returned (.tuple #[.agg apj,D (EY l)])/\St B w0 w' fs)/\(EY l=0-> ∃row L,e=.returned (.tuple #[.agg row,D 0])/\aav L (l9.run l) row/\St B w0 w' (L++fs))):=by
 have hb2:=hb;unfold reachBytes at hb2;refine iW 99 func11 ?_;refine cw [0] ?_;refine zN 2 ?_;refine iL S alg ?_;intro b1 w2 S3;refine zN 8 ?_;by_cases h4:100000< (l.length:Int)
 ·refine zN 7 ?_;refine sa 0 S3 kQ ?_;intro w5 S6;refine zN 6 ?_;have S7:=S6.bg [0];have hsf:EY l=1:=akV Y;refine⟨λ_=>⟨by rw[hsf];rfl,S7⟩,λh=>?_⟩;rw[hsf]at h;exact av h (by first|decide|assumption)
 refine zN 15 ?_;refine fV (X:=Nat) (λI=>[(0,.slice A l.length c),(2,pV b1 0),(3,D 0),(18,.slice A l.length c),(19,D (l.length:Int)),(20,D (I:Int))]) (λI wr=>(I<=l.length)/\(zf l=zf (l.drop I))/\St B w0 wr ((.Pj b1 oZ 37)::fs)) (λI=>l.length-I) (0) ?_ ?_ ?_
 ·exact⟨aC _,E,S3⟩
 ·exact vD
 rintro k1 w8 ⟨aak,Px,S9⟩
 try dsimp only at aak Px S9
 refine bK (l':=[(0,.slice A l.length c),(2,pV b1 0),(3,D 0),(18,.slice A l.length c),(19,D (l.length:Int)),(20,D (k1:Int))]) vD (aX (aH ?_));by_cases h12:(k1:Int)< (l.length:Int)
 ·refine zN 10 ?_;obtain⟨x,hx⟩:∃x,l[k1]? =some x:=⟨_,dJ Y⟩;obtain⟨ab_,ao_,hAb⟩:=Ie aaw S9 (Qw 1 E fD) Y;refine zQ ?_;refine vv (v:=pV ab_ (ao_+k1*11)) (aQ E E E (mJ k1 hAb underlying23 kQ Y Y)) ?_;refine vv (v:=.agg (aR x)) (ay E E (eZ (cs:=Ac.cells x) (λj u hu=>by rw[jT];exact BF aaw hAb S9 (Qw 1 E fD) (dw (enc:=Ac.cells) (sz:=11) (k:=k1) (λ_=>E) hx hu)))) ?_;refine iL S9 alh ?_;intro b13 OE ku;refine sa 0 ku kQ ?_;intro w16 zi;refine zN 5 ?_;refine Vm eQ zi (ain x _) ?_;intro Qi xK;refine zN 6 ?_;by_cases h21:dK x=0
  ·refine zN 8 ?_;refine vv (v:=D ((k1+1:Nat):Int)) jB ?_;refine zN 2 ?_;have lY:=xK.bg [0];refine bQ (k1+1) ?_ vD (by first|omega|(dsimp only;omega));exact⟨Y,(by rw[Px];exact avN hx h21),lY⟩
  refine zN 8 ?_;refine sa 1 xK kQ ?_;intro Oz mG;refine zN 10 ?_;have nC:=mG.bg [1,0];have hsf:EY l=dK x:=by rw[Uo Y,Px];exact apf hx h21
  refine⟨λ_=>⟨by rw[hsf];rfl,nC⟩,λh=>?_⟩;rw[hsf]at h;exact av h (by first|decide|assumption)
 refine zN 12 ?_;have ay4:EY l=0:=by rw[Uo Y,Px,sS Y];rfl
 obtain⟨aJ3,hall⟩:=apg ay4;refine eB eQ (YS S9 hu) ?_;rintro _ Rs ⟨K,rfl,aHM⟩;refine⟨_,E,?_⟩;have aht:Wd K B w0 Rs ((.Pj b1 oZ 37)::fs) l9 []:=aHM;have wm:=Wd.top aht;obtain⟨kw,jw⟩:∃b,K.wb=b:=⟨_,E⟩;obtain⟨n,hn0⟩:∃n,n=0:=⟨_,E⟩;have hn:n<5:=Y;obtain⟨kn,hkn⟩:∃b,K.nb n=b:=⟨_,E⟩;rw[jw];refine zN 12 ?_;refine fV (X:=Nat×Cl) (λI=>[(2,pV b1 0),(3,D 0),(7,pV kw 0),(32,.slice A l.length c),(33,D (l.length:Int)),(34,D (I.1:Int))]) (λI wr=>(Wd K B w0 wr ((.Pj b1 oZ 37)::fs) I.2 [])/\(I.2=l9.run (l.take I.1))/\(Bs I.2 I.1)/\(U8 I.2)/\(I.1<=l.length)/\St B w0 wr ((.Pj b1 oZ 37)::fs)) (λI=>l.length-I.1) (0,l9) ?_ ?_ ?_
 ·exact⟨aht,E,ayj,λ_ _=>gI _,aC _,Wd.top aht⟩
 ·exact vD
 rintro⟨k2,mm⟩ w29 ⟨af8,LU,Iw,V9,asG,Ew⟩
 try dsimp only at af8 LU Iw V9 asG Ew
 refine bK (l':=[(2,pV b1 0),(3,D 0),(7,pV kw 0),(32,.slice A l.length c),(33,D (l.length:Int)),(34,D (k2:Int))]) vD ?_;obtain⟨R3,G3,Zz⟩:=af8.open hn;have Xx:=G3.jO n hn;obtain⟨M,Z⟩:∃X,mm.au n=X:=⟨_,E⟩;obtain⟨O,hz3⟩:∃z,R3.nx n=z:=⟨_,E⟩;rw[Z,hz3]at Zz Xx;obtain⟨rr3,MF⟩:∃r,iM K R3 mm fs n=r:=⟨_,E⟩;have ay5:∀f∈fs,f∈rr3:=λf hf=>MF▸bO _ hf;have wu:St B w0 w29 (cN kn n M O O.pv (cF kw R3 mm ((.Pj b1 oZ 37)::rr3))):=by rw[<-MF];subst hkn;subst jw;exact Zz
 clear Zz;refine zN 2 ?_;by_cases h37:(k2:Int)< (l.length:Int)
 ·refine zN 10 ?_;obtain⟨x,hx⟩:∃x,l[k2]? =some x:=⟨_,dJ Y⟩;obtain⟨ab_,ao_,hAb⟩:=Ie aaw wu (Qw 8 E ay5) Y;have hxa:=aqE (hall x (jm hx));refine zQ ?_;refine vv (v:=pV ab_ (ao_+k2*11)) (aQ E E E (mJ k2 hAb underlying23 kQ Y Y)) ?_;refine vv (v:=.agg (aR x)) (ay E E (eZ (cs:=Ac.cells x) (λj u hu=>by rw[jT];exact BF aaw hAb wu (Qw 8 E ay5) (dw (enc:=Ac.cells) (sz:=11) (k:=k2) (λ_=>E) hx hu)))) ?_;refine iL wu alh ?_;intro b38 w39 zG;refine sa 0 zG kQ ?_;intro w41 Hr;refine zN 5 ?_;have vU:=Hr.bg [0];have aHN:=Wd.eU (m:=mm) (m':=mm) (H:=[]) (H':=[]) (fs:=(.Pj b1 oZ 37)::fs) (X':=M) (z':=O) (Ls:=[]) (fA:=R3.fA) (fc:=R3.fc) (fx:=R3.fx) (sA:=R3.sA) (sc:=R3.sc) (tA:=R3.tA) (tc:=R3.tc) (rr:=(.Pj b1 oZ 37)::rr3) hkn jw (by rw[<-MF];rfl) G3 hn vU Xx.more (λu hu=>.inl hu) (aJ Z).symm G3.PI.symm mI;refine eB eQ (akU (n:=x.nd.toNat) (q:=x.qu.toNat) (by have:=hxa.nd;omega) (by have:=hxa.qu;omega) (by have:=hxa.nd;omega) (by have:=hxa.qu;omega) E jw hu aHN Iw Y hxa V9) ?_;rintro _ w46 ⟨rfl,asN⟩;refine⟨_,E,?_⟩;have Cu:=Wd.top asN;refine zN 4 ?_;refine vv (v:=D ((k2+1:Nat):Int)) jB ?_;refine zN 2 ?_;refine bQ (k2+1,mm.UN x) ?_ vD (by first|omega|(dsimp only;omega));exact⟨asN,(by dsimp only;rw[aph hx,akW,<-LU]),(by dsimp only;exact M7 Iw hxa Y),(by dsimp only;exact U8.UN V9),uQ,(Wd.top asN)⟩
 refine zN 11 ?_;have hmm:mm=l9.run l:=by rw[LU,jE Y]
 have hBs:=Iw;obtain⟨R,G,S0⟩:=af8.open hn;have NG:=G.jO n hn;obtain⟨X,hX⟩:∃X,mm.au n=X:=⟨_,E⟩;obtain⟨z,hz⟩:∃z,R.nx n=z:=⟨_,E⟩;rw[hX,hz]at S0 NG;obtain⟨rr,hrr⟩:∃r,iM K R mm fs n=r:=⟨_,E⟩;have hfr:∀f∈fs,f∈rr:=λf hf=>hrr▸bO _ hf;have Dh:St B w0 w29 (cN kn n X z z.pv (cF kw R mm ((.Pj b1 oZ 37)::rr))):=by rw[<-hrr];subst hkn;subst jw;exact S0
 clear S0;have hcl:=hBs.calls;have hfl:R.fx.length=mm.PI.length:=by rw[<-G.PI,gK]
 refine zN 4 ?_;refine vv (v:=.agg (qM 0 (λ_=>false) (⟨⟨0,0⟩,⟨0,0⟩,⟨0,0⟩,⟨0,0⟩⟩:UE) (.slice none 0 0) (.slice R.sA mm.bH.length R.sc) (.slice R.tA mm.bZ.length R.tc) mm.calls)) (ay E E (eZ (cs:=(qM 0 (λ_=>false) (⟨⟨0,0⟩,⟨0,0⟩,⟨0,0⟩,⟨0,0⟩⟩:UE) (.slice none 0 0) (.slice R.sA mm.bH.length R.sc) (.slice R.tA mm.bZ.length R.tc) mm.calls).toList) (St.rg 3 Dh E apk))) ?_;refine iL Dh alg ?_;intro J Zb yh;refine stA 0 yh kQ ?_ (h1:=by exact aq0 (fl:=0) (U:=(λ_=>false)) (d:=(⟨⟨0,0⟩,⟨0,0⟩,⟨0,0⟩,⟨0,0⟩⟩:UE)) (bv:=.slice none 0 0) (sv:=.slice R.sA mm.bH.length R.sc) (tv:=.slice R.tA mm.bZ.length R.tc) (calls:=mm.calls) E E E);intro w52 Az;refine zN 2 ?_;have xP:=Az.fJ [4,1];refine zQ ?_;have zh:=xP.drew;refine aO 13 zh [0] ?_;refine aP 3 ?_;refine ak (v:=.slice R.fA R.fx.length R.fc) 3 E (St.del 0 zh) (λ_ aeW=>(ay E E (aV (St.cl 0 aeW E V8)))) ?_;refine aP 4 ?_;refine ak (v:=.agg ((mm.off.cells).toArray)) 8 E (St.del 0 zh) (λ_ aeS=>(ay E E (eZ (cs:=(mm.off.cells)) (St.rg 0 aeS E (AV))))) ?_;refine eH ?_;refine bG 10 ?_;refine snz 10 E 0 zh kQ ?_ (hs:=by exact aHJ);intro Zc xI;refine aP 2 ?_;refine bG 12 ?_;refine snz 12 E 0 xI kQ ?_ (h1:=yV _) (hs:=by exact aHK);intro w69 CP;refine aP 2 ?_;refine zN 3 ?_;obtain⟨ab,ao,uG⟩:=ET G.arr CP (Qw 9 E λf hf=>hrr▸aL _ (aL _ hf));refine zN 4 ?_;refine vv (v:=.slice R.nA 5 R.nc) (ay E E (aV (St.cl 1 CP E Db))) ?_;refine zN 5 ?_;have wo:=CP.fJ [7,7,7,4,7,7,7];have Jo:=St.shut (gs:=[.Pj J (qM R.fx.length (λ_=>false) mm.off (.slice none 0 0) (.slice R.sA mm.bH.length R.sc) (.slice R.tA mm.bZ.length R.tc) mm.calls) 37,.Pj b1 oZ 37]) hn (by subst hkn;subst jw;rw[hX,hz,show iM K R mm fs n=rr from hrr];exact wo);have xu:=Jo.nil 59 1;obtain⟨LC,hLC⟩:∃f,f=nN K R mm:=⟨_,E⟩;obtain⟨LF,hLF⟩:∃f,f=fs++LC:=⟨_,E⟩;rw[<-hLC,<-hLF]at xu;refine fV (X:=Nat×(Nat->Bool)×(List (Nat×List BX))×(Option Addr)×Nat×(List Nf)) (λI=>[(2,pV b1 0),(3,D 0),(10,pV J 0),(60,.slice R.nA 5 R.nc),(61,D 5),(62,D (I.1:Int))]) (λI wr=>(I.1<=5)/\(I.2.2.1.length=I.1)/\(∀j p,I.2.2.1[j]? =some p->P1 (I.2.2.2.2.2++LC) mm j p)/\(∀j,j<I.1->I.2.1 j=(mm.au j).up)/\St B w0 wr ((.own 59 1 (.slice I.2.2.2.1 I.2.2.1.length I.2.2.2.2.1) I.2.2.1.length ((I.2.2.1).flatMap lG))::(.Pj J (qM R.fx.length I.2.1 mm.off (.slice I.2.2.2.1 I.2.2.1.length I.2.2.2.2.1) (.slice R.sA mm.bH.length R.sc) (.slice R.tA mm.bZ.length R.tc) mm.calls) 37)::(.Pj b1 oZ 37)::(I.2.2.2.2.2++LF))) (λI=>5-I.1) (0,(λ_=>false),[],none,0,[]) ?_ ?_ ?_
 ·exact⟨aC _,E,(λj p hp=>by simp at hp),(λj hj=>av hj (G9 _)),xu⟩
 ·exact vD
 rintro⟨k,U9,ps,OA,oc,N9⟩ w74 ⟨ay6,agW,alT,alU,J6⟩
 try dsimp only at ay6 agW alT alU J6
 refine bK (l':=[(2,pV b1 0),(3,D 0),(10,pV J 0),(60,.slice R.nA 5 R.nc),(61,D 5),(62,D (k:Int))]) vD ?_;have hk5:k<=5:=ay6;refine zN 2 ?_;by_cases h80:(k:Int)<5
 ·refine zN 10 ?_;have hk4:k<5:=Y;have S9:=St.aHL (n:=k) (gs:=[.own 59 1 (.slice OA ps.length oc) ps.length ((ps).flatMap lG),.Pj J (qM R.fx.length U9 mm.off (.slice OA ps.length oc) (.slice R.sA mm.bH.length R.sc) (.slice R.tA mm.bZ.length R.tc) mm.calls) 37,.Pj b1 oZ 37]) (N:=N9) (fs:=fs) hk4 (by rw[<-hLC,<-hLF];exact J6);obtain⟨M,Z⟩:∃X,mm.au k=X:=⟨_,E⟩;obtain⟨O,hz3⟩:∃z,R.nx k=z:=⟨_,E⟩;obtain⟨knk,alV⟩:∃b,K.nb k=b:=⟨_,E⟩;obtain⟨rk,Q8⟩:∃r,fs++(og K R mm k++R.L)=r:=⟨_,E⟩;have Xx:=G.jO k hk4;rw[Z,hz3]at S9 Xx;rw[Q8]at S9;have hLk:∀f∈R.L,f∈rk:=λf hf=>Q8▸aL _ (aL _ hf);have xJ:St B w0 w74 (cN knk k M O O.pv (cF kw R mm ((.own 59 1 (.slice OA ps.length oc) ps.length ((ps).flatMap lG))::(.Pj J (qM R.fx.length U9 mm.off (.slice OA ps.length oc) (.slice R.sA mm.bH.length R.sc) (.slice R.tA mm.bZ.length R.tc) mm.calls) 37)::(.Pj b1 oZ 37)::(N9++rk)))):=by subst alV;subst jw;exact S9
  clear S9;refine zN 2 ?_;refine vv (v:=pV ab (ao+k*1)) (aQ E E E (mJ k uG Tryz.underlying80 kQ Y Y)) ?_;refine vv (v:=pV knk 0) (ay E E (aV (alV▸yY (uG▸G.arr) hk4 xJ (Qw 10 E λf hf=>aL _ (hLk f hf))))) ?_;refine zN 12 ?_;refine vv (v:=pV J (1+k*1)) (aQ E E E (fu k underlying27 kQ E hk4)) ?_;refine Jb (cs:= #[.bool M.up]) (row':=qM R.fx.length (Qv U9 k M.up) mm.off (.slice OA ps.length oc) (.slice R.sA mm.bH.length R.sc) (.slice R.tA mm.bZ.length R.tc) mm.calls) (fs':=(_::_::_::_::_::_::_::_::(.Pj J (qM R.fx.length (Qv U9 k M.up) mm.off (.slice OA ps.length oc) (.slice R.sA mm.bH.length R.sc) (.slice R.tA mm.bZ.length R.tc) mm.calls) 37)::_::(N9++rk))) 8 xJ (wn E) E E E E E E kQ E (dh E) (by show 1+k*1+1<=18;omega) (aBn hk4 (v:=M.up)) E ?_;intro w82 F5;refine zN 13 ?_
  rcases hup:M.up with _|_
  ·refine zN 4 ?_;refine vv (v:=.bool false) (SQ hup (ay E E (aV (St.cl 0 F5 E E)))) ?_;refine zN 8 ?_;refine vv (ay E E (eZ (cs:=[.slice O.tA M.data.length O.tc,D M.Qr]) (St.rg 0 F5 E (vI)))) ?_;have hrd:=(hBs.jO k hk4).VF;rw[Z]at hrd;refine eB eQ (K5 O.tA O.tc M.data M.Qr _ (Xx.AX.rd F5 (Qw 10 E λf hf=>aL _ (hLk f hf))) hrd.1 hrd.2.2.1) ?_;rintro _ w87 ⟨A84,c85,bB,bs,hbm,hbl,hbc,rfl,T86⟩;refine⟨_,E,?_⟩;have Ql:=F5.ext T86 (by simp[NU,Nf.K8]);have Qk:St B w0 w87 ((oB bB bs)::(.dB 1 A84 ((lC M.data M.Qr).1.length) (JV ((lC M.data M.Qr).1)))::(cN knk k M O O.pv (cF kw R mm ((.own 59 1 (.slice OA ps.length oc) ps.length ((ps).flatMap lG))::(.Pj J (qM R.fx.length (Qv U9 k M.up) mm.off (.slice OA ps.length oc) (.slice R.sA mm.bH.length R.sc) (.slice R.tA mm.bZ.length R.tc) mm.calls) 37)::(.Pj b1 oZ 37)::((N9++rk)++gL bs))))):=St.perm Ql (Perm.cons _ (Perm.cons _ (Bv (l₁:=gL bs))));clear F5;refine zN 10 ?_;refine bsI Qk ?_;intro b90 w91 AB;refine eu (news:=[.slice (aD bB 0) 4 4]) (xs':=((ps++[(bB,bs)])).flatMap lG) 10 AB (wn E) E E E E E E (St.nO (xs:=[.slice (aD bB 0) 4 4]) 0 AB E E E) underlying33 ahJ E dQ (dh E) lQ Y (jV (enc:=lG) E E) ?_;intro A93 c94 w95 aPn aPo EG;refine zQ ?_;refine kU 11 EG kQ ?_ (hs:=by exact aq2);intro w99 xM;refine zN 4 ?_;refine vv (v:=D ((k+1:Nat):Int)) jB ?_;refine zN 2 ?_;have zw:=xM.bg [2,0];have uz:=zw.fJ [0,10,10,10,10,10,10,10,10,10,10];have wV:St B w0 w99 ((.own 59 1 (.slice A93 (ps.length+1) c94) (ps.length+1) (((ps++[(bB,bs)])).flatMap lG))::(.Pj J (qM R.fx.length (Qv U9 k M.up) mm.off (.slice A93 (ps.length+1) c94) (.slice R.sA mm.bH.length R.sc) (.slice R.tA mm.bZ.length R.tc) mm.calls) 37)::(.Pj b1 oZ 37)::(((oB bB bs)::(gL bs++N9))++LF)):=by
    rw[hLF,hLC];exact St.aq3 (n:=k) (gs:=[.own 59 1 (.slice A93 (ps.length+1) c94) (ps.length+1) (((ps++[(bB,bs)])).flatMap lG),.Pj J (qM R.fx.length (Qv U9 k M.up) mm.off (.slice A93 (ps.length+1) c94) (.slice R.sA mm.bH.length R.sc) (.slice R.tA mm.bZ.length R.tc) mm.calls) 37,.Pj b1 oZ 37,.own 58 6 (.slice (aD bB 0) 4 4) 4 ((bs).flatMap BX.cells)]) (N:=N9) (l7:=gL bs) (fs:=fs) hk4 (by subst alV;subst jw;rw[Z,hz3];rw[<-Q8]at uz;exact uz)
   have Zw:ps.length+1=(ps++[(bB,bs)]).length:=by simp
   rw[Zw]at wV;refine bQ (k+1,Qv U9 k M.up,(ps++[(bB,bs)]),A93,c94,(.own 58 6 (.slice (aD bB 0) 4 4) 4 ((bs).flatMap BX.cells)::(gL bs++N9))) ?_ vD (by first|omega|(dsimp only;omega));exact⟨uQ,(by dsimp only;rw[aY,agW];rfl),(by dsimp only;exact Tf agW (λj p hp=>(alT j p hp).mono (λf hf=>(bD.1 hf).elim (λh=>bO _ (dZ _ (aL _ h))) λh=>aL _ h)) (apm hbm hbc Z hup)),(by dsimp only;exact Xz alU Z),wV⟩
  refine zN 4 ?_;refine vv (v:=.bool true) (SQ hup (ay E E (aV (St.cl 0 F5 E E)))) ?_;refine zN 10 ?_;refine bsI F5 ?_;intro aPp ax1 PD;refine eu (news:=[.slice (aD O.bb 0) 4 4]) (xs':=((ps++[(O.bb,O.bx)])).flatMap lG) 8 PD (wn E) E E E E E E (St.nO (xs:=[.slice (aD O.bb 0) 4 4]) 0 PD E E E) underlying33 ahJ E dQ (dh E) lQ Y (jV (enc:=lG) E E) ?_;intro Z8 Z9 aeU aJ4 aJ5 uP;refine zQ ?_;refine kU 9 uP kQ ?_ (hs:=by exact aq2);intro alq EA;refine zN 4 ?_;refine vv (v:=D ((k+1:Nat):Int)) jB ?_;refine zN 2 ?_;have tF:=EA.bg [0];have Ca:=tF.fJ [9,9,9,9,9,9,9,9,9,9];have C8:St B w0 alq ((.own 59 1 (.slice Z8 (ps.length+1) Z9) (ps.length+1) (((ps++[(O.bb,O.bx)])).flatMap lG))::(.Pj J (qM R.fx.length (Qv U9 k M.up) mm.off (.slice Z8 (ps.length+1) Z9) (.slice R.sA mm.bH.length R.sc) (.slice R.tA mm.bZ.length R.tc) mm.calls) 37)::(.Pj b1 oZ 37)::(N9++LF)):=by
   rw[hLF,hLC];exact St.aq3 (n:=k) (gs:=[.own 59 1 (.slice Z8 (ps.length+1) Z9) (ps.length+1) (((ps++[(O.bb,O.bx)])).flatMap lG),.Pj J (qM R.fx.length (Qv U9 k M.up) mm.off (.slice Z8 (ps.length+1) Z9) (.slice R.sA mm.bH.length R.sc) (.slice R.tA mm.bZ.length R.tc) mm.calls) 37,.Pj b1 oZ 37]) (N:=N9) (l7:=[]) (fs:=fs) hk4 (by subst alV;subst jw;rw[Z,hz3,bI];rw[<-Q8]at Ca;exact Ca)
  have Zw:ps.length+1=(ps++[(O.bb,O.bx)]).length:=by simp
  rw[Zw]at C8;refine bQ (k+1,Qv U9 k M.up,(ps++[(O.bb,O.bx)]),Z8,Z9,N9) ?_ vD (by first|omega|(dsimp only;omega));exact⟨uQ,(by dsimp only;rw[aY,agW];rfl),(by dsimp only;exact Tf agW (λj p hp=>(alT j p hp).mono (λf hf=>hf)) (hLC▸apl (G.jO k hk4) Z hz3 hup hk4)),(by dsimp only;exact Xz alU Z),C8⟩
 refine zN 13 ?_;refine stA 2 J6 kQ ?_ (h1:=by exact aq0 (fl:=R.fx.length) (U:=U9) (d:=mm.off) (bv:=.slice OA ps.length oc) (sv:=.slice R.sA mm.bH.length R.sc) (tv:=.slice R.tA mm.bZ.length R.tc) (calls:=mm.calls) E E E);intro alu yI;refine zN 5 ?_;have hsf:EY l=0:=ay4;refine⟨λh=>av hsf h,λ_=>?_⟩;have vR:=yI.bg [2,1];have h5:k=5:=Y;rw[hLF]at vR;refine⟨_,[.own 59 1 (.slice OA ps.length oc) ps.length ((ps).flatMap lG)]++(N9++LC),E,?_,St.aBo (gs:=[.own 59 1 (.slice OA ps.length oc) ps.length ((ps).flatMap lG)]) (N:=N9) (fs:=fs) (LC:=LC) vR⟩;rw[<-hmm];exact apn (ps:=ps) G Y (λj hj=>alU j Y) (bO _ (aI.2 E)) (λf hf=>aL _ (aL _ (hLC▸hf))) (λj p hp=>(alT j p hp).mono λf hf=>aL _ hf)
def avR{B:Nat}{w0 w:World}{fs:List Nf}{A:Option Addr}{c:Nat}{l:List Ac}(J:EY l=0)(S:St B w0 w fs)(M:Uk B w0)(I:Ro fs 11 A l.length (l.flatMap Ac.cells))(O:l.length*88<=reachBytes):
 Calls prog 11 #[.slice A l.length c] w (λe w'=> ∃row L,e=.returned (.tuple #[.agg row,D 0])/\aav L (l9.run l) row/\St B w0 w' (L++fs)):=(agV S M I O).mono λ_ _ h=>h.2 J
structure OX where
 fl:Nat
 U:Nat->Bool
 d:UE
 BA:Option Addr
 bc:Nat
 sA:Option Addr
 sn:Nat
 sc:Nat
 tA:Option Addr
 tn:Nat
 tc:Nat
 calls:Nat
def OX.cells(x:OX):List Value:=JN x.fl x.U x.d (.slice x.BA 5 x.bc) (.slice x.sA x.sn x.sc) (.slice x.tA x.tn x.tc) x.calls
abbrev oY (x:OX)(s:Value):Array Value:= #[D (x.fl:Int),.bool (x.U 0),.bool (x.U 1),.bool (x.U 2),.bool (x.U 3),.bool (x.U 4),D x.d.p0.node,D x.d.p0.Pf,D x.d.p1.node,D x.d.p1.Pf,D x.d.p2.node,D x.d.p2.Pf,D x.d.p3.node,D x.d.p3.Pf,.slice x.BA 5 x.bc,s,.slice x.tA x.tn x.tc,D (x.calls:Int)]
abbrev oX (x:OX):Array Value:=oY x (.slice x.sA x.sn x.sc)
structure agX (L:List Nf)(m:Cl)(x:OX):Prop where
 up:∀j,j<5->x.U j=(m.au j).up
 d:x.d=m.off
 fl:x.fl=m.PI.length
 sn:x.sn=m.bH.length
 tn:x.tn=m.bZ.length
 calls:x.calls=m.calls
 ps:∃ps:List (Nat×List BX),ps.length=5/\Ro L 1 x.BA 5 (ps.flatMap lG)/\ ∀j p,ps[j]? =some p->P1 L m j p
 bH:Ro L 14 x.sA x.sn (m.bH.flatMap l5.cells)
 bZ:Ro L 7 x.tA x.tn (m.bZ.flatMap zH.cells)
def aav.x{L:List Nf}{m:Cl}{row:Array Value}(h:aav L m row):∃x:OX,row=x.cells.toArray/\agX L m x:=by
 obtain⟨U,BA,bc,sA,sc,tA,tc,ps,rfl,I,J,M,hs,O,Z⟩:=h;exact⟨⟨m.PI.length,U,m.off,BA,bc,sA,m.bH.length,sc,tA,m.bZ.length,tc,m.calls⟩,E,I,E,E,E,E,E,⟨ps,J,M,Z⟩,hs,O⟩
def agX.mono{L L':List Nf}{m:Cl}{x:OX}(h:agX L m x)(I:∀f∈L,f∈L'):agX L' m x:=by
 obtain⟨h1,O,Z,h4,h5,h6,⟨ps,h7,h8,h9⟩,J,M⟩:=h;exact⟨h1,O,Z,h4,h5,h6,⟨ps,h7,h8.mono I,λj p hj=>(h9 j p hj).mono I⟩,J.mono I,M.mono I⟩
def adI(B:Nat)(w0:World)(fs:List Nf)(l:List Ac)(e:Ending)(w':World):Prop:= ∃x L,e=.returned (.tuple #[.agg (OX.cells x).toArray,.bool true])/\agX L (l9.run l) x/\St B w0 w' (L++fs)
def apo{α:Type}{l:List α}(h:l.length=5):∃a b c d e,l=[a,b,c,d,e]:=by
 match l,h with
 |[a,b,c,d,e],_=>exact⟨a,b,c,d,e,E⟩
def agY{B:Nat}{w0 w:World}{fs:List Nf}{A:Option Addr}{c:Nat}{l:List Ac}(h0:EY l=0)(S:St B w0 w fs)(hu:Uk B w0)(J:Ro fs 11 A l.length (l.flatMap Ac.cells))(hb:l.length*88<=reachBytes):
 Calls prog 7 #[.slice A l.length c] w (adI B w0 fs l):=by
 refine iW 28 func7 ?_;refine cw [0] ?_;refine zN 2 ?_;refine iL S alg ?_;intro b1 w2 S3;refine zN 6 ?_;refine eB eQ (avR h0 S3 hu (J.mono (Qw 1 E fD)) hb) ?_;rintro _ w4 ⟨aPq,L8,rfl,hO9,S5⟩;refine⟨_,E,?_⟩;obtain⟨x,rfl,hX⟩:=aav.x hO9;obtain⟨ps,hpl,M,hP⟩:=hX.ps;obtain⟨p0,p1,p2,p3,p4,rfl⟩:=apo hpl;have S6:=S5.perm (perm_middle (a:=.Pj b1 oZ 37) (l₁:=L8) (l₂:=fs));have O:∀f∈L8,f∈L8++fs:=λf h=>bO _ h;obtain⟨bA,oA,Z⟩:=Ie M S6 (Qw 1 E O) dQ;refine zN 3 ?_;refine iL S6 alg ?_;intro b10 KM rA;refine stA 0 rA kQ ?_;intro Hq oJ;refine zN 4 ?_;have I:=oJ.drew;refine aO 19 I [1] ?_;refine aP 12 ?_;refine GQ (v:=.pointer (some ⟨bA,oA+0*1,none⟩)) (i:=12) (n:=6) E kQ kQ kQ (St.del 1 I) E (wg E E E E) E E (λ_ _=>(aQ E E E (mJ 0 Z underlying33 kQ dQ dQ))) ?_;refine GQ (v:=.slice (some ⟨p0.1,0,none⟩) 4 4) (i:=13) (n:=5) E kQ kQ kQ (St.del 1 I) E (wg E E E E) E E (λ_ agw=>(ay E E (aV (BF M Z agw (Qw 1 E O) E)))) ?_;refine aP 3 ?_;refine bG 17 ?_;refine snA 17 E 1 I kQ ?_;intro w33 uO;refine aP 3 ?_;refine zN 3 ?_;have wu:=uO.bg [1,0];exact⟨x,L8,E,hX,wu⟩
section
variable {Q Q2 Q3 y:Qd}{l:List l5}{i j k:Nat}{a b:l5}{e:Ev}
def PK(Q Q':Qd):Prop:=Q.ep<Q'.ep\/Q.ep=Q'.ep/\Q.gv<=Q'.gv
def PK.refl:PK Q Q:=.inr ⟨E,gI _⟩
def PK.trans(h:PK Q Q2)(I:PK Q2 Q3):PK Q Q3:=by unfold PK at*;omega
def akX:PK Q (QT Q e).1/\(QT Q e).1.ep<=Q.ep+1:=by
 have same:∀ {Q':Qd},Q'.ep=Q.ep->Q.gv<=Q'.gv->PK Q Q'/\Q'.ep<=Q.ep+1:=λh1 I=>⟨.inr ⟨h1.symm,I⟩,by omega⟩;have h:=same (Q':=Q) E (gI _);unfold QT
 split
 ·unfold Et
  split; · exact h
  split; · exact h
  split; · exact h
  exact same E (gI _)
 split
 ·unfold J2
  split; · exact h
  split; · exact h
  exact same E uQ
 split
 ·unfold Ip
  split; · exact h
  split; · exact h
  exact same E (gI _)
 unfold Iq
 split; · exact h
 exact⟨.inl uQ,gI _⟩
end
section
variable {m w m':Cl}{n q B k:Nat}{l:bY}{G G':Nat->Gh}{g g':Gh}{b b':bF}{rs us:List dN}{V:Nat->bF}{P:Nat->Option cZ}{U:Nat->Bool}{Lt:bY->Prop}{pl:Pl}{sh:Nat->Int×Int}{sv:List l5}{p:cZ}{F F':Wy}{v v':Nat->bF}{d:Int}{f f':Nat->Nat}
def adJ:∀ {k:Nat} {l:List Ev},l.length=k->UH l->(aK l).1.ep<=k
 | 0,l,I,h=>by
  rw[qY.1 I];rw[Bw (l:=[]) iQ (show jh fU [] []=some (fU,[])from E)];exact gI _
 |k+1,l,I,h=>by
  have J:l=l.take k++[l[k]]:=by rw[<-uS Y,<-I,jy]
  have M:UH (l.take k++[l[k]]):=J▸h;obtain⟨h1,_,O⟩:=Vw M;have ih:=adJ (k:=k) (l:=l.take k) (by rw[dV];omega) (xR h);obtain⟨_,_,Z⟩:=aoF h1;rw[J,O,Z];have:=(akX (Q:=(aK (l.take k)).1) (e:=l[k])).2
  show(QT (aK (l.take k)).1 l[k]).1.ep<=((k+1:Nat):Int)
  omega
def akY{l:List Ev}(h:UH l)(J:l.length<2000):UH (l++[bC]):=by
 have M:=adq E h;have he:=adJ E h;have I:jN (aK l).1 bC=_:=Cr M dQ;have hs:QT (aK l).1 bC=Iq (aK l).1:=rfl;have O:(QT (aK l).1 bC).2.2=true:=by
  rw[hs];unfold Iq;rw[ah Y]
 exact RX h J (by rw[I]) (by rw[I];exact O)
def Gl{q:Nat}{JU:List Ev}{an:List kg}:∀(il:List Nat) (w:Cl),(w.recovered n q JU an il).au=w.au
 |[],_=>rfl
 |i::r,w=>(Gl r (w.UR n q (JU.getD i aU) (an.getD i iP) (-1))).trans E
def K6(w:Cl)(q:Nat):(w.recover n q).au=w.au:=by
 unfold Cl.recover
 split
 ·rfl
 exact Gl _ _
def UD.aiO(I:UD g V P U Lt pl sh sv):∀k,k+1<g.m->k<=g.len (k+1)
 | 0,_=>aC _
 |k+1,h=>by
  have J:=UD.aiO I k Y;have:=(I.brk (k+1) Y Y).2;unfold Gh.bd at this;rw[ah Y]at this;omega
def UD.aax(I:UD g V P U Lt pl sh sv):g.m<=g.G.length+1:=by
 by_cases c:g.m<=1
 ·omega
 have h1:=I.aiO (g.m-2) Y;have h:=I.P5 (k:=g.m-2+1) Y Y;omega
def agZ(o:Option cZ):ES o<=Zq o:=by
 cases o with
 |none=>exact aC _
 |some p=>cases p<;>simp[ES,Zq]
def aBp:m.c0<=m.cw:=by
 have h:∀a:List bY,eG cu a<=qJ a:=by
  intro a
  induction a with
  |nil=>exact aC _
  |cons l r I=>
   have:cu l<=JF l:=by
    unfold cu JF
    split
    ·rename_i h;rw[aj (.inl h)];exact aB
    exact aC _
   rw[eG,qJ];omega
 have J:=h m.PI;have M:=h (m.au 0).Pq;have O:=h (m.au 1).Pq;have Z:=h (m.au 2).Pq;have i3:=h (m.au 3).Pq;have i4:=h (m.au 4).Pq;have s0:=agZ (m.au 0).PL;have s1:=agZ (m.au 1).PL;have s2:=agZ (m.au 2).PL;have s3:=agZ (m.au 3).PL;have s4:=agZ (m.au 4).PL;unfold Cl.c0 Cl.ws Cl.cw uo;omega
def aBq{F:Wy}(h:0<=b.ep)(I:F.R<=1):fi F n b<=46*(F.M+2)+92+13892:=by
 have h1:SK b.GR<=2:=by unfold SK;split;omega;split<;>omega
 have J:Xt F n b<=13892:=by unfold Xt;split<;>omega
 unfold fi;omega
def aq5:(zI m q g).R<=1:=by unfold zI;dsimp only;split<;>omega
def aBr(g:Gr)(cr:Bool):(iy g cr).qu<2:=by
 have p2:=oO (n:=g.b) (m:=2) dQ;unfold iy
 split
 ·unfold P7;dsimp only;omega
 repeat' split
 all_goals first|omega|(dsimp only;omega)
def o5(f:Nat->Nat):Nat:=f 0+(f 1+(f 2+(f 3+f 4)))
def pJ(F:Wy)(v:Nat->bF)(n:Nat):Nat:=if n≠F.own F.M/\(v n).GR=3 then 1 else 0
def tgl(F:Wy)(b:bF):Nat:=if b.ep=F.M+1 then b.JU.length+1 else 0
def ZE(F:Wy)(bo bt:bF):Nat:=if F.R=1 then bo.JU.length+2-tgl F bt+(if bo.GR=2 then 1 else 0)+2 else 0
def O6(F:Wy)(d:Int):Nat:=if d=F.M then 0 else 1
def pE(F:Wy)(d:Int)(v:Nat->bF):Nat:=ZE F (v (F.own F.M)) (v F.tg.toNat)+O6 F d+o5 (pJ F v)
def gG(F:Nat->Wy)(l:bY):Nat:=if (l.kd=2\/l.kd=4)/\ ¬calm (F l.q) l then 1 else 0
def tV:Option cZ->Nat
 |none=>0
 |some _=>1
def vq(m:Cl)(q:Nat)(j:Nat):bF:=qK (m.au j) q
noncomputable def PP(m:Cl)(F:Nat->Wy):Nat:=2*m.ws cu+(pE (F 0) (m.off.at 0).Pf (vq m 0)+pE (F 1) (m.off.at 1).Pf (vq m 1))
noncomputable def ZZ(m:Cl)(F:Nat->Wy):Nat:=8*PP m F+2*m.ws (gG F)+o5 λj=>tV (m.au j).PL
def ahu{a:Nat}(hn:n<5)(h:∀j,j≠n->f' j=f j)(I:f' n+a<=f n):o5 f'+a<=o5 f:=by
 unfold o5
 rcases five hn with rfl|rfl|rfl|rfl|rfl
 ·rw[h 1 (by decide),h 2 (by decide),h 3 (by decide),h 4 (by decide)];omega
 ·rw[h 0 (by decide),h 2 (by decide),h 3 (by decide),h 4 (by decide)];omega
 ·rw[h 0 (by decide),h 1 (by decide),h 3 (by decide),h 4 (by decide)];omega
 ·rw[h 0 (by decide),h 1 (by decide),h 2 (by decide),h 4 (by decide)];omega
 rw[h 0 (by decide),h 1 (by decide),h 2 (by decide),h 3 (by decide)];omega
def Cz(h:∀j,j<5->f' j=f j):o5 f'=o5 f:=by
 unfold o5;rw[h 0 (by decide),h 1 (by decide),h 2 (by decide),h 3 (by decide),h 4 (by decide)]
def VH{a:Nat}(hn:n<5)(h:∀j,j≠n->f' j<=f j)(I:f' n<=f n+a):o5 f'<=o5 f+a:=by
 unfold o5;have k:∀j,j≠n->f' j<=f j:=h
 rcases five hn with rfl|rfl|rfl|rfl|rfl
 ·have:=h 1 (by decide);have:=h 2 (by decide);have:=h 3 (by decide);have:=h 4 (by decide);omega
 ·have:=h 0 (by decide);have:=h 2 (by decide);have:=h 3 (by decide);have:=h 4 (by decide);omega
 ·have:=h 0 (by decide);have:=h 1 (by decide);have:=h 3 (by decide);have:=h 4 (by decide);omega
 ·have:=h 0 (by decide);have:=h 1 (by decide);have:=h 2 (by decide);have:=h 4 (by decide);omega
 have:=h 0 (by decide);have:=h 1 (by decide);have:=h 2 (by decide);have:=h 3 (by decide);omega
def apq:pJ F v n<=1:=by unfold pJ;split<;>omega
def akZ(h:∀j,(v' j).GR=(v j).GR/\(v' j).ep=(v j).ep/\(v' j).JU=(v j).JU):pE F d v'=pE F d v:=by
 have h1:o5 (pJ F v')=o5 (pJ F v):=Cz λj _=>by unfold pJ;rw[(h j).1]
 unfold pE ZE tgl;rw[h1,(h _).1,(h (F.own F.M)).2.2,(h F.tg.toNat).2.1,(h F.tg.toNat).2.2]
def nI.pq(ho:F.own F.M<5)(h:nI F F'):pE F' d v<=pE F d v:=by
 rcases h with⟨h1,J,O,I⟩|⟨h1,J,O,I,h5⟩
 ·have e:F'.own F'.M=F.own F.M:=by rw[h1];exact J _ aB
  have Z:o5 (pJ F' v)=o5 (pJ F v):=Cz λj _=>by unfold pJ;rw[e]
  unfold pE ZE O6 tgl;rw[Z,e,h1,O,I];exact aB
 have Z:o5 (pJ F' v)<=o5 (pJ F v)+1:=by
  refine VH ho (λj hj=>?_) (fG apq (le_add_left _ _));unfold pJ
  split
  ·rename_i c
   rw[aj ⟨hj,c.2⟩];exact aB
  exact aC _
 unfold pE ZE O6;rw[ah (by omega:¬F'.R=1),aj I]
 split<;>omega
def FT{F:Nat->Wy}{x:bY}(h:x.kd≠2/\x.kd≠4\/calm (F x.q) x):gG F x=0:=by
 unfold gG;rw[ah]
 rcases h with h|h
 ·omega
 exact λc=>c.2 h
def VI{F:Nat->Wy}(x:bY)(h:x.kd=6):gG F x=0:=FT (.inl (by omega))
def nI.sl{F F':Nat->Wy}(h:nI (F l.q) (F' l.q)):gG F' l<=gG F l:=by
 unfold gG
 split
 ·rename_i c
  rw[aj ⟨c.1,λk=>c.2 (h.clm k)⟩];exact aB
 exact aC _
def apr{V:Nat->bF}{P:Nat->Option cZ}{U:Nat->Bool}{Lt:bY->Prop}{pl:Pl}{sh:Nat->Int×Int}{sv:List l5}{bs:Nat->bF}{FF:Nat->Wy}(I:UD g V P U Lt pl sh sv)(hn:n<5)(hV:V n=bs l.q)(hpq:p.q=l.q)(hp:p.ok bs)(hS:Src (bs l.q) l p)(hk:HY g V n p)
  (Fz:l.tg=n) (hM:(FF l.q).M=g.m) (ho:(FF l.q).own=g.own) (hR:(FF l.q).R=1↔(V g.o).GR≠1) (hT:(FF l.q).tg=(V g.o).tg) (hgr:∀q x last,p=.UK q x last->(bs l.q).JU.length<x.JU.length) (hv:v n=bs l.q) (hvo:g.G.length<=(v g.o).JU.length):
  pE (FF l.q) d (Qv v n (p.b bs))+1<=pE (FF l.q) d v+2*cu l+gG FF l:=by
 have eo:(FF l.q).own (FF l.q).M=g.o:=by rw[hM,ho];rfl
 have o5':=I.o5;have htn:(FF l.q).R=1->(FF l.q).tg.toNat≠g.o:=λh=>by
  obtain⟨_,h1,h2,h3⟩:=I.Vp (hR.1 h);rw[<-hT]at h1 h2;omega
 have O:∀j,j≠n->Qv v n (p.b bs) j=v j:=λj hj=>Ph hj;have auth:∀ {a c:Nat},n=g.o->(p.b bs).JU.length<=(bs l.q).JU.length+a->(if (p.b bs).GR=2 then 1 else 0)+c<=(if (bs l.q).GR=2 then 1 else 0)->(c=0\/(FF l.q).R=1)->pE (FF l.q) d (Qv v n (p.b bs))+c<=pE (FF l.q) d v+a:=λ{a c} Qz h h3 hc=>by
  have e1:o5 (pJ (FF l.q) (Qv v n (p.b bs)))=o5 (pJ (FF l.q) v):=Cz λj _=>by
   unfold pJ;by_cases e:j=n
   ·rw[eo,e,Qz,ah (λc=>c.1 E),ah (λc=>c.1 E)]
   rw[O j e]
  have e2:Qv v n (p.b bs) g.o=p.b bs:=by rw[<-Qz];exact JR _ _ _
  have e3:v g.o=bs l.q:=by rw[<-Qz];exact hv
  unfold pE ZE;rw[e1,eo,e2,e3];by_cases J:(FF l.q).R=1
  ·rw[aj J,aj J,O _ (by rw[Qz];exact htn J)];omega
  rw[ah J,ah J]
  rcases hc with hc|hc
  ·omega
  exact av hc J
 have Z:∀ {a c:Nat},n≠g.o->(if (p.b bs).GR=3 then 1 else 0)+a<=(if (bs l.q).GR=3 then 1 else 0)->
   ((FF l.q).R=1->(FF l.q).tg.toNat=n->(v g.o).JU.length+2-tgl (FF l.q) (p.b bs)+c<=(v g.o).JU.length+2-tgl (FF l.q) (bs l.q))->(c=0\/((FF l.q).R=1/\(FF l.q).tg.toNat=n))->pE (FF l.q) d (Qv v n (p.b bs))+(a+c)<=pE (FF l.q) d v:=λ{a c} Qz h h1 hc=>by
  have e1:o5 (pJ (FF l.q) (Qv v n (p.b bs)))+a<=o5 (pJ (FF l.q) v):=by
   refine ahu hn (λj hj=>by unfold pJ;rw[O j hj]) ?_;unfold pJ;rw[eo,JR,hv];have:∀b:bF,(if n≠g.o/\b.GR=3 then 1 else 0)=if b.GR=3 then 1 else 0:=λb=>by
    by_cases e:b.GR=3
    ·rw[aj ⟨Qz,e⟩,aj e]
    rw[ah (λc=>e c.2),ah e]
   rw[this,this];exact h
  have e2:Qv v n (p.b bs) g.o=v g.o:=O _ (λe=>Qz e.symm);unfold pE ZE;rw[eo,e2];by_cases J:(FF l.q).R=1
  ·rw[aj J,aj J];by_cases ht:(FF l.q).tg.toNat=n
   ·have:=h1 J ht;rw[ht,JR,hv];omega
   rw[O _ ht]
   rcases hc with hc|⟨_,hc⟩
   ·omega
   exact av hc ht
  rw[ah J,ah J]
  rcases hc with hc|⟨hc,_⟩
  ·omega
  exact av hc J
 have cl1:¬calm (FF l.q) l->(l.kd=2\/l.kd=4)->gG FF l=1:=λh h2=>aj ⟨h2,h⟩;have r3:∀ {r:Int},r≠3->(if r=3 then 1 else 0:Nat)=0:=λh=>ah h
 cases p with
 |serve k JU op num a=>
  have e:k=l.q:=hpq;subst e;obtain⟨s1,_⟩:=hS;obtain⟨h1,h2,_⟩:=hp;have hc:cu l=1:=aj s1;have:=auth (a:=1) (c:=0) hk.1 (by
   show JU.length<=_
   rw[h2,aY,lZ];exact aB) aB (.inl E)
  omega
 |QL k x=>
  have e:k=l.q:=hpq;subst e;obtain⟨s1,s2⟩:=hS;obtain⟨j,j1,j2,j3,j4,j5⟩:=hk;have Qz:=I.sF j4;rw[hV]at j4 j5;have hle:l.ep=(j:Int)+1:=by have:=bM bF.ep (s2.symm.trans j1);exact this
  have hx:(cZ.QL l.q x).b bs=x:=rfl;have hxr:x.GR=4:=by rw[j1]
  have hxe:x.ep=(j:Int)+1:=by rw[j1]
  have hxv:x.JU.length=0:=by rw[j1];rfl
  have t0:tgl (FF l.q) (bs l.q)=0:=ah (by rw[hM];omega);by_cases c:calm (FF l.q) l
  ·rcases c with⟨c1,c2,c3⟩|⟨c1,c2,c3⟩
   ·exfalso
    rw[hM]at c2;rw[ho,Fz]at c3;have:=I.ge (j+1) (by omega) (by omega);rw[show l.ep.toNat=j+1 by omega]at c3;rw[show g.own (j+1)=n by omega,hV]at this;omega
   have:=Z (a:=0) (c:=1) Qz (by rw[hx,r3 (r:=x.GR) (by omega),r3 (by omega)];exact aB) (λ_ _=>by
    rw[t0,hx];unfold tgl;rw[aj (by omega),hxv];omega) (.inr ⟨c2,by omega⟩)
   omega
  have h1:=cl1 c (.inl s1);have:=Z (a:=0) (c:=0) Qz (by rw[hx,r3 (r:=x.GR) (by omega),r3 (by omega)];exact aB) (λ_ _=>by rw[t0];omega) (.inl E);omega
 |UK k x last=>
  have e:k=l.q:=hpq;subst e;have hgrow:=hgr _ _ _ E;obtain⟨es,g1,g2,g3,g4,g5,g6,g7⟩:=xW hp;obtain⟨s1,s2,s3,s4,s5,s6,s7,s8,s9⟩:=hS;obtain⟨k1,k2,k3⟩:=hk;have Qz:n≠g.o:=I.sF (.inr k1);rw[hV]at k1;have hx:(cZ.UK l.q x last).b bs=x:=rfl;have hxr:x.GR=4\/x.GR=1:=by
   cases last with
   |true=>obtain⟨_,_,_,a4,_⟩:=k3 E;rw[a4];exact .inr E
   |false=>obtain⟨j,a1,_⟩:=k2 E;rw[a1];exact .inl (by show(V n).GR=4;rw[hV];exact k1)
  have hbl:(bs l.q).JU.length<=g.G.length:=by
   rcases I.p8 n hn Qz with⟨h5,_⟩|⟨_,h5,_⟩|⟨k',_,h2,h3,h4,_,_,h7,_⟩
   ·rw[hV]at h5;omega
   ·rw[hV]at h5;omega
   rw[hV]at h7;exact fG h7 (I.Z6 h3 h4)
  by_cases c:calm (FF l.q) l
  ·rcases c with⟨c1,c2,c3⟩|⟨c1,c2,c3⟩
   ·exfalso
    rw[hM]at c2;rw[ho,Fz]at c3
    rcases I.p8 n hn Qz with⟨h5,_⟩|⟨_,h5,_⟩|⟨k',_,h2,h3,h4,_,_,_,h8⟩
    ·rw[hV]at h5;omega
    ·rw[hV]at h5;omega
    rw[hV]at h2;rw[show l.ep.toNat=k'+1 by omega]at c3;exact h8 (by omega) (by omega)
   have:=Z (a:=0) (c:=1) Qz (by rw[hx,r3 (r:=x.GR) (by omega),r3 (r:=(bs l.q).GR) (by omega)];exact aB) (λ_ _=>by
    rw[hx];unfold tgl;rw[aj (by omega),aj (by omega)];omega) (.inr ⟨c2,by omega⟩)
   omega
  have h1:=cl1 c (.inr s1);have:=Z (a:=0) (c:=0) Qz (by rw[hx,r3 (r:=x.GR) (by omega),r3 (r:=(bs l.q).GR) (by omega)];exact aB) (λJ htn=>by
   have hne:¬(bs l.q).ep=((FF l.q).M:Int)+1:=λe=>c (.inr ⟨by omega,J,by
    obtain⟨_,_,h2,_⟩:=I.Vp (hR.1 J);rw[<-hT]at h2;omega⟩)
   rw[hx];unfold tgl;rw[ah hne,ah (by omega)];omega) (.inl E)
  omega
 |gJ k x a=>
  have e:k=l.q:=hpq;subst e;obtain⟨h1,h2⟩:=hp;obtain⟨k1,k2,k3⟩:=hk;have hb:(cZ.gJ l.q x a).b bs=x:=rfl;have:=auth (a:=0) (c:=1) k1 (by rw[hb,h2];exact aB) (by rw[hb,h2,h1];exact aB) (.inr (hR.2 (by rw[<-k1,k2];decide)));omega
 |QE k x=>
  have e:k=l.q:=hpq;subst e;obtain⟨h1,h2⟩:=hp;obtain⟨k1,k2,k3⟩:=hk;have Qz:n≠g.o:=λe=>by have:=I.wz;rw[<-e]at this;omega
  rw[hV]at k3;have hb:(cZ.QE l.q x).b bs=x:=rfl;have:=Z (a:=1) (c:=0) Qz (by rw[hb,h2,h1];exact aB) (λ_ _=>by
   rw[hb,h2];unfold tgl;dsimp only;rw[ah (by omega),ah (by omega)];omega) (.inl E)
  omega
end
section
variable {m w m':Cl}{n q B:Nat}{l:bY}{p:cZ}{G G':Nat->Gh}{g g':Gh}{b b':bF}{rs us:List dN}{V:Nat->bF}{P:Nat->Option cZ}{U:Nat->Bool}{Lt:bY->Prop}{pl:Pl}{sh:Nat->Int×Int}{sv:List l5}{F F':Nat->Wy}
def aps(H:Hnd m n l m'):m'.off=m.off:=by
 cases H with
 |done a h1 h=>unfold Cl.done;split<;>rfl
 |part b h1 h I J M O=>unfold Cl.part;split<;>rfl
 |_=>rfl
def N7(H:Hnd m n l m'):∃new,m'.PI=m.PI++new/\ ∀x∈new,x.kd≠2:=by
 have one:∀ {x:bY},x.kd≠2-> ∀y∈[x],y.kd≠2:=λh y J=>by rw[aI]at J;subst J;exact h
 cases H with
 |same=>exact⟨[],by simp,λx I=>by cases I⟩
 |done a h1 M=>
  unfold Cl.done
  split
  ·exact⟨_,E,one (by show(1:Int)≠2;decide)⟩
  exact⟨_,E,one (by show(1:Int)≠2;decide)⟩
 |UG h1=>exact⟨_,E,one (by show(3:Int)≠2;decide)⟩
 |part b h1 M O Z h5 h6=>
  unfold Cl.part
  split
  ·exact⟨[],by simp;rfl,λx I=>by cases I⟩
  exact⟨_,E,one (by show(4:Int)≠2;decide)⟩
 |PL p dX d h1 M O Z h5=>exact⟨[],by simp;rfl,λx I=>by cases I⟩
 |Uz h1=>exact⟨[],by simp;rfl,λx I=>by cases I⟩
def avT{x:bF}{last:Bool}(J:l.kd=4)(I:(m.au n).PL=none)(h:((m.QB n l).au n).PL=some (.UK q x last)):x.JU.length≠((m.au n).bs l.q).JU.length:=by
 rw[show m.QB n l=m.UK n l by unfold Cl.QB;rw[ah (by omega),ah (by omega),ah (by omega),aj J]]at h;unfold Cl.UK at h
 split at h
 ·rw[I]at h;cases h
 split at h
 ·rw[show((m.UG n l.q).au n).PL=none from I]at h;cases h
 split at h
 ·rw[I]at h;cases h
 rename_i c
 split at h
 ·rw[I]at h;cases h
 rw[bL]at h;simp only[Option.some.injEq,cZ.UK.injEq]at h;rw[<-h.2.1];exact λe=>c (.inr e)
def Ng(h:m'.au n=m.au n):vq m' q n=vq m q n:=by unfold vq;rw[h]
def avU(R:Rmc m G B (uF (FF m G) l) (cu l))(hn:n<5)(hU:qL (m.au n) rs [])(hp:(m.au n).PL=none)(hL:∀q,q<2->l.q=q->Hz (G q) (vw m q) (m.off.at q) l)(Fz:l.tg=n)(O:l.q<2)
  (l7:Da m m' n) (H:Hnd m n l m') (aHO:∀q x last,l.kd=4->(m'.au n).PL=some (.UK q x last)->x.JU.length≠((m.au n).bs l.q).JU.length):
  m'.ws (gG (FF m G))<=m.ws (gG (FF m G))/\(((m'.au n).PL=none/\PP m' (FF m G)<=PP m (FF m G)/\ZZ m' (FF m G)<=ZZ m (FF m G))\/
   ((m'.au n).PL≠none/\PP m' (FF m G)+1<=PP m (FF m G)+2*cu l+gG (FF m G) l/\ZZ m' (FF m G)+7<=ZZ m (FF m G)+16*cu l+8*gG (FF m G) l)):=by
 have hu:=R.up n hn;obtain⟨hbs,WM⟩:=Zu hu hp H;obtain⟨new,hf,hnew⟩:=MB hu H;obtain⟨new2,hf2,hnew2⟩:=N7 H;have en:new2=new:=adL (hf2.symm.trans hf);subst en;have hs0:∀x∈new2,gG (FF m G) x=0:=λx hx=>by
  obtain⟨h1,M⟩:=hnew x hx;by_cases h4:x.kd=4
  ·obtain⟨h5,h6,h7,h8⟩:=M h4;refine FT (.inr ?_);rw[h5];have hV:=jk (q:=l.q) hu;exact xY (R.qi _ O) hn (by rw[hV];exact h6) (by rw[hV];exact h7) (by rw[hV];exact h8)
  exact FT (.inl ⟨hnew2 x hx,h4⟩)
 have hst:m'.ws (gG (FF m G))<=m.ws (gG (FF m G)):=qP hn l7.p8 l7.jC hf2 hs0;have hcl:m'.ws cu<=m.ws cu:=qP hn l7.p8 l7.jC hf2 λx hx=>vM (hnew x hx).1;have hoff:m'.off=m.off:=aps H;refine⟨hst,?_⟩;have hpn:∀ {a:Nat},tV (m'.au n).PL<=a->(o5 λj=>tV (m'.au j).PL)<=(o5 λj=>tV (m.au j).PL)+a:=λ{a} h=>
  VH hn (λj hj=>by rw[l7.p8 j hj];exact aB) (by omega)
 have J:∀q,((m'.au n).PL=none\/ ∃p,(m'.au n).PL=some p/\p.q≠q)-> ∀d,pE (FF m G q) d (vq m' q)=pE (FF m G q) d (vq m q):=λq h d=>akZ λj=>by
  by_cases e:j=n
  ·subst e;unfold vq;rw[jP hp];have e:qK (m'.au j) q=(m'.au j).bs q:=by
    rcases h with h|⟨p,h,M⟩
    ·exact jP h
    exact Ba h M
   rw[e];exact⟨(hbs q).1,(hbs q).2.2.1,(hbs q).2.2.2⟩
  rw[Ng (l7.p8 j e)];exact⟨E,E,E⟩
 rcases WM with⟨h1,M⟩|⟨p,h1,M,h3,h4,h5,h6⟩
 ·left
  have hP:PP m' (FF m G)<=PP m (FF m G):=by
   unfold PP;rw[J 0 (.inl h1),J 1 (.inl h1),hoff];omega
  refine⟨h1,hP,?_⟩;have:=hpn (a:=0) (by rw[h1];exact aB);unfold ZZ;omega
 right
 have hV:=jk (q:=l.q) hu;have hff:=(jI hU.tape hU.nE h3 (by rw[M];omega)).2;have agn:=Zp (R.qi _ O) hn hV E (hL _ O E) Fz M E h3 h5 hff;have I:=R.qi _ O;have hRR:(FF m G l.q).R=1↔(vw m l.q (G l.q).o).GR≠1:=by
  show(if (vw m l.q (G l.q).o).GR=1 then 0 else 1)=1↔_
  split
  ·rename_i c;exact⟨λh=>by omega,λh=>av c h⟩
  rename_i c;exact⟨λ_=>c,λ_=>E⟩
 have hvo:(G l.q).G.length<=(vq m l.q (G l.q).o).JU.length:=by
  have Z:=I.o5;rw[<-I.zk];unfold vq
  cases hpo:(m.au (G l.q).o).PL with
  |none=>rw[jP hpo,jk (R.up _ Z)];exact aB
  |some p2=>
   by_cases e:p2.q=l.q
   ·rw[q9 hpo e];have hpv:Cy m l.q (G l.q).o=some p2:=by unfold Cy;rw[hpo];exact Qc e
    obtain⟨_,hk⟩:=I.nU _ Z p2 hpv;have ae:=jk (q:=l.q) (R.up _ Z);have zk:=I.zk;have Fy:=I.Fy
    cases p2 with
    |serve k JU op num a=>obtain⟨_,_,k3,_⟩:=hk;show _<=JU.length;rw[k3,zk,aY];omega
    |QL k x=>obtain⟨_,_,_,_,k4,_⟩:=hk;omega
    |UK k x last=>have:=hk.1;omega
    |gJ k x a=>obtain⟨_,_,k3⟩:=hk;show _<=x.JU.length;rw[k3];exact aB
    |QE k x=>obtain⟨_,_,k3⟩:=hk;have:=I.wz;omega
   rw[Ba hpo e,jk (R.up _ Z)];exact aB
 have hpp:=apr (FF:=FF m G) (d:=(m.off.at l.q).Pf) (v:=vq m l.q) I hn hV M h3 h5 agn Fz E E hRR E (λq x last e=>by
  subst e;have hk4:l.kd=4:=h5.1;have hne:=aHO q x last hk4 h1;obtain⟨es,g1,g2,g3,g4,g5,g6,g7⟩:=xW h3;have e:q=l.q:=M;subst e
  cases last with
  |true=>simp only[if_true,length_singleton]at*;omega
  |false=>simp only[Bool.false_eq_true,if_false,length_nil]at*;omega) (by unfold vq;exact jP hp) hvo
 have e1:∀d,pE (FF m G l.q) d (vq m' l.q)=pE (FF m G l.q) d (Qv (vq m l.q) n (p.b (m.au n).bs)):=λd=>by
  congr 1
  funext j
  by_cases e:j=n
  ·subst e;rw[JR];unfold vq;rw[q9 h1 M,h4]
  rw[Ph e];exact Ng (l7.p8 j e)
 have hP:PP m' (FF m G)+1<=PP m (FF m G)+2*cu l+gG (FF m G) l:=by
  have h01:l.q=0\/l.q=1:=by omega
  unfold PP;rw[hoff]
  rcases h01 with e|e
  ·rw[e]at hpp e1;have:=J 1 (.inr ⟨p,h1,by rw[M,e];decide⟩) (m.off.at 1).Pf;rw[this,e1];omega
  rw[e]at hpp e1;have:=J 0 (.inr ⟨p,h1,by rw[M,e];decide⟩) (m.off.at 0).Pf;rw[this,e1];omega
 refine⟨by rw[h1];simp,hP,?_⟩;have:=hpn (a:=1) (by rw[h1];exact aB);unfold ZZ;omega
def oU(hv:Vd m)(h:∀q,q<2->F q=F' q):PP m F=PP m F'/\m.ws (gG F)=m.ws (gG F')/\ZZ m F=ZZ m F':=by
 have h1:PP m F=PP m F':=by unfold PP;rw[h 0 (by decide),h 1 (by decide)]
 have e:∀l:bY,l.q<2->gG F l=gG F' l:=λl I=>by unfold gG;rw[h _ I]
 have M:m.ws (gG F)=m.ws (gG F'):=Nat.le_antisymm (Qe (λl I=>oq (e l (hv.PI l I))) λj J l I=>oq (e l (hv.jC j J l I))) (Qe (λl I=>oq (e l (hv.PI l I)).symm) λj J l I=>oq (e l (hv.jC j J l I)).symm);exact⟨h1,M,by unfold ZZ;rw[h1,M]⟩
def avV(hv:Vd m)(h:∀q,q<2->nI (F q) (F' q)):m.ws (gG F')<=m.ws (gG F):=Qe (λl I=>(h _ (hv.PI l I)).sl) λj J l I=>(h _ (hv.jC j J l I)).sl
def XA(I:(m.au n).up=true)(J:(m.au n).PL=some p)(O:p.ok (m.au n).bs):∃new,(m.step n).PI=m.PI++new/\(∀x∈new,x.kd≠2)/\(m.step n).off=m.off:=by
 have one:∀ {x:bY},x.kd≠2-> ∀y∈[x],y.kd≠2:=λh y Z=>by rw[aI]at Z;subst Z;exact h
 cases p with
 |serve k JU op num a=>
  rw[kH E I J E O.1];exact⟨_,E,one (by show(1:Int)≠2;decide),E⟩
 |QL k b=>
  rw[qb E I J];exact⟨_,E,one (by show(3:Int)≠2;decide),E⟩
 |UK k b last=>
  cases last with
  |true=>
   rw[lK E I J];exact⟨[],by rw[bI];rfl,(λx M=>av M not_mem_nil),E⟩
  |false=>
   rw[vK E I J];exact⟨_,E,one (by show(3:Int)≠2;decide),E⟩
 |gJ k b at_=>
  rw[sw E I J];dsimp only;unfold ni
  split
  ·exact⟨[],by rw[bI],(λx M=>av M not_mem_nil),E⟩
  exact⟨_,E,one (by show(4:Int)≠2;decide),E⟩
 |QE k b=>
  rw[nW E I J];exact⟨[],by rw[bI];rfl,(λx M=>av M not_mem_nil),E⟩
def apt{T S fP K:Nat}(R:Rm m G B)(R':Rm (m.step n) G' B)(hW:∀q,q<2->nI (FF m G q) (FF (m.step n) G' q))(hb:eF m T S fP K)(hn:n<5)(J:(m.au n).PL=some p):
 (m.step n).ws (gG (FF (m.step n) G'))<=m.ws (gG (FF m G))/\PP (m.step n) (FF (m.step n) G')<=PP m (FF m G)/\ZZ (m.step n) (FF (m.step n) G')+1<=ZZ m (FF m G)/\((m.step n).au n).PL=none:=by
 have hu:=R.up n hn;obtain⟨rs,us,hU⟩:=(hb.jO n hn).xV hu;obtain⟨h1,h2,h3⟩:=hU.JD p J;obtain⟨_,hf⟩:=jI hU.tape hU.nE h2 h3;obtain⟨dX,y1,y2,y3,y4,y5,y6,y7,y8,y9,_⟩:=CS E hu J h3 hf h2;have eY:(m.step n).au n=dX:=by rw[y1,JR]
 have hvY:∀q,dX.bs q=qK (m.au n) q:=λq=>by
  rw[y2];by_cases e:q=p.q
  ·subst e;rw[JR,q9 J E]
  rw[Ph e,Ba J (λh=>e h.symm)]
 have I:∀j,j≠n->(m.step n).au j=m.au j:=λj hj=>by rw[y1,Ph hj]
 have M:((m.step n).au n).Pq=(m.au n).Pq:=by rw[eY,y7]
 obtain⟨new,Z,O⟩:=Um hu J h2;obtain⟨new2,aHP,hnew2,hoff⟩:=XA hu J h2;have en:new2=new:=adL (aHP.symm.trans Z);subst en;have hpq:=R.vd.nU n hn p J;have hs0:∀x∈new2,gG (FF (m.step n) G') x=0:=λx hx=>by
  obtain⟨k1,k2⟩:=O x hx;by_cases h4:x.kd=4
  ·obtain⟨k5,k6,k7,k8⟩:=k2 h4;refine FT (.inr ?_);rw[k5];have hVn:vw (m.step n) p.q n=qK (m.au n) p.q:=by rw[jk (by rw[eY];exact y6),eY,hvY]
   exact xY (R'.qi _ hpq) hn (by rw[hVn];exact .inr k6) (by rw[hVn];exact k7) (by rw[hVn];exact k8)
  exact FT (.inl ⟨hnew2 x hx,h4⟩)
 have hst:(m.step n).ws (gG (FF (m.step n) G'))<=m.ws (gG (FF m G)):=fG (qP hn I M Z hs0) (avV R.vd hW);have hcl:(m.step n).ws cu<=m.ws cu:=qP hn I M Z λx hx=>vM (O x hx).1;have hvq:∀q,vq (m.step n) q=vq m q:=λq=>by
  funext j
  by_cases e:j=n
  ·subst e;unfold vq;rw[eY,jP y5,hvY]
  exact Ng (I j e)
 have hP:PP (m.step n) (FF (m.step n) G')<=PP m (FF m G):=by
  have k:∀q,q<2-> ∀d v,pE (FF (m.step n) G' q) d v<=pE (FF m G q) d v:=λq hq d v=>(hW q hq).pq ((R.qi q hq).o5);unfold PP;rw[hvq,hvq,hoff];have:=k 0 (by decide) (m.off.at 0).Pf (vq m 0);have:=k 1 (by decide) (m.off.at 1).Pf (vq m 1);omega
 refine⟨hst,hP,?_,by rw[eY];exact y5⟩;have:=ahu (f:=λj=>tV (m.au j).PL) (f':=λj=>tV ((m.step n).au j).PL) (a:=1) hn (λj hj=>by show tV _=tV _;rw[I j hj]) (by show tV _+1<=tV _;rw[eY,y5,J];exact aB);unfold ZZ;omega
def adM(R:Rm m G B)(hn:n<5):(m.lM n).ws (gG (FF m G))<=m.ws (gG (FF m G))/\PP (m.lM n) (FF m G)<=PP m (FF m G)/\ZZ (m.lM n) (FF m G)<=ZZ m (FF m G):=by
 have hu:=R.up n hn;have J:(m.lM n).au=Qv m.au n {m.au n with turn:=(m.au n).turn+1}:=rfl;have Z:(m.lM n).au n={m.au n with turn:=(m.au n).turn+1}:=by rw[J,JR]
 have I:∀j,j≠n->(m.lM n).au j=m.au j:=λj hj=>by rw[J,Ph hj]
 have hV:∀q,vw m q n=(m.au n).bs q:=λq=>jk hu;have M:∀x∈iG n ((m.au n).turn % 4) ((m.au n).bs ((m.au n).turn % 4)) ((m.au n).QA ((m.au n).turn % 4)),cu x=0/\gG (FF m G) x=0:=by
  intro x h;have e5:∀y:bY,y.kd=5->cu y=0/\gG (FF m G) y=0:=λy hy=>⟨vM (by omega),FT (.inl (by omega))⟩;unfold iG at h
  rcases bD.1 h with h|h
  ·rcases bD.1 h with h|h
   ·split at h
    ·rename_i hr
     rw[aI]at h;subst h;refine⟨vM (by show(2:Int)≠0;decide),FT (.inr ?_)⟩;have h4:(m.au n).turn % 4<2:=by
      by_cases c:(m.au n).turn % 4<2
      ·exact c
      have:=R.vd.view hn hu (q:=(m.au n).turn % 4) (by omega) (by omega);omega
     exact xY (R.qi _ h4) hn (by rw[hV];exact hr) (by rw[hV];rfl) (by rw[hV];rfl)
    simp at h
   split at h
   ·rw[aI]at h;subst h;exact e5 _ E
   simp at h
  split at h
  ·rw[aI]at h;subst h;exact e5 _ E
  simp at h
 have hst:(m.lM n).ws (gG (FF m G))<=m.ws (gG (FF m G)):=qP hn I (by rw[Z]) E λx h=>(M x h).2;have hcl:(m.lM n).ws cu<=m.ws cu:=qP hn I (by rw[Z]) E λx h=>(M x h).1;have O:∀q,vq (m.lM n) q=vq m q:=λq=>by
  funext j
  by_cases e:j=n
  ·subst e;unfold vq;rw[Z];rfl
  exact Ng (I j e)
 have hP:PP (m.lM n) (FF m G)<=PP m (FF m G):=by
  unfold PP;rw[O,O]
  show 2*(m.lM n).ws cu+(pE (FF m G 0) (m.off.at 0).Pf (vq m 0)+pE (FF m G 1) (m.off.at 1).Pf (vq m 1))<=_
  omega
 refine⟨hst,hP,?_⟩;have:(o5 λj=>tV ((m.lM n).au j).PL)=o5 λj=>tV (m.au j).PL:=Cz λj _=>by
  show tV _=tV _
  by_cases e:j=n
  ·subst e;rw[Z]
  rw[I j e]
 unfold ZZ;omega
def aBs(m m':Cl)(F F':Nat->Wy)(n:Nat):Prop:=
 m'.ws (gG F')<=m.ws (gG F)/\PP m' F'<=PP m F/\
 (((m.au n).PL=none/\(m'.au n).PL=none/\ZZ m' F'<=ZZ m F/\ ∀q,q<2->F' q=F q)\/((m.au n).PL≠none/\ZZ m' F'+1<=ZZ m F)\/
  ((m.au n).PL=none/\(m'.au n).PL≠none/\ZZ m' F'+1<=ZZ m F/\(m.ws (gG F)=0->ZZ m' F'+7<=ZZ m F)))
def apu(l:bY):gG F l<=1:=by unfold gG;split<;>omega
def ak0(l:bY)(h:gG F l≠0):cu l=0:=by
 unfold gG at h
 split at h
 ·rename_i c;exact vM (by omega)
 exact av E h
def adN{T S fP K:Nat}(R:Rm m G B)(hB:B+46<=100000)(hb:eF m T S fP K)(hn:n<5):∃G',Rm (m.step n) G' B/\(∀q,q<2->nI (FF m G q) (FF (m.step n) G' q))/\aBs m (m.step n) (FF m G) (FF (m.step n) G') n:=by
 have hu:=R.up n hn;obtain⟨rs,us,hU⟩:=(hb.jO n hn).xV hu
 cases hp:(m.au n).PL with
 |some p=>
  obtain⟨G',R',hW⟩:=adD R hb hn hp;obtain⟨h1,h2,h3,h4⟩:=apt R R' hW hb hn hp;exact⟨G',R',hW,h1,h2,.inr (.inl ⟨by rw[hp];simp,h3⟩)⟩
 |none=>
  have key:=qZ (n:=n) (λw=>Sv m n rs w/\ ∃Z,Rm w Z B/\(∀q,q<2->FF w Z q=FF m G q)/\w.ws (gG (FF m G))<=m.ws (gG (FF m G))/\PP w (FF m G)<=PP m (FF m G)/\
    (((w.au n).PL=none/\ZZ w (FF m G)<=ZZ m (FF m G))\/((w.au n).PL≠none/\ZZ w (FF m G)+1<=ZZ m (FF m G)/\(m.ws (gG (FF m G))=0->ZZ w (FF m G)+7<=ZZ m (FF m G))))) (λw l r ⟨H,Z,M,F1,S1,P1,O⟩ hp1 hin=>by
   obtain⟨h1,h2,h3,h4⟩:=q8 (λl hl=>nu (hb.jC n hn l hl)) H hp1 hin;have hl0:l∈(w.au n).Pq:=by rw[hin];simp
   obtain⟨b1,b2⟩:=hb.jC n hn l (H.jC l hl0);have hlq:=M.vd.jC n hn l hl0;have Mt:(w.put n ((w.au n).box r)).au=Qv w.au n ((w.au n).box r):=rfl;have e0:(w.put n ((w.au n).box r)).au n=(w.au n).box r:=bL _;have I:∀j,j≠n->(w.put n ((w.au n).box r)).au j=w.au j:=λj hj=>Ph hj;have hvw:∀q,vw (w.put n ((w.au n).box r)) q=vw w q:=λq=>oP Mt E;have hF1:FF (w.put n ((w.au n).box r)) Z=FF w Z:=by funext q;exact JK (.refl _) (by rw[hvw]) (by rw[hvw])
   have hws:∀f:bY->Nat,(w.put n ((w.au n).box r)).ws f+f l<=w.ws f:=λf=>Le hn (λj hj=>by rw[I j hj]) (by
    rw[e0,hin]
    show eG f w.PI+eG f r+f l<=eG f w.PI+(f l+eG f r)
    omega)
   have R2:Rmc (w.put n ((w.au n).box r)) Z B (uF (FF (w.put n ((w.au n).box r)) Z) l) (cu l):=by
    refine⟨λj hj=>?_,M.vd.at_ (n:=n) (X:=(w.au n).box r) E (λq h7 h8=>M.vd.rol n hn q h7 h8) (M.vd.nU n hn) (λx hx=>M.vd.jC n hn x (by rw[hin];exact dZ _ hx)) (λx hx=>.inl hx),λq J=>?_,λj hj=>?_,λq J=>?_⟩
    ·by_cases e:j=n
     ·rw[e,e0];exact M.up n hn
     rw[I j e];exact M.up j hj
    ·exact(M.qi q J).far hn Mt E E E (λx hx=>by rw[hin];exact dZ _ hx) (λx hx=>.inl hx) E E E
    ·have h5:=M.Dv j hj;have h6:=hws (uF (FF w Z));unfold Dv at h5⊢;rw[hF1];by_cases e:j=n
     ·rw[e]at h5⊢;rw[e0];have e1:∀q,qK ((w.au n).box r) q=qK (w.au n) q:=λ_=>E;have e2:((w.au n).box r).data=(w.au n).data:=rfl;rw[e1,e1,e2];omega
     rw[I j e];omega
    have h5:=M.cap q J;have h6:=JJ (d:=cu l) (d':=cu l) hn I (hws cu) (by rw[e0];show ES (w.au n).PL+_<=_;omega);rw[hF1];omega
   have hL:∀q,q<2->l.q=q->Hz (Z q) (vw (w.put n ((w.au n).box r)) q) (w.off.at q) l:=λq J agu=>by rw[hvw];exact(M.qi q J).nT l ⟨agu,.inr ⟨n,hn,hl0⟩⟩
   obtain⟨G2,R3,F2⟩:=Zv R2 hB hn h2 (by rw[e0];exact hp1) hL b2 b1.2.1 b1.2.2.2 hlq (kJ h1.1) h3;have hFF:∀q,q<2->FF (w.put n ((w.au n).box r)) Z q=FF m G q:=λq J=>by rw[hF1];exact F1 q J
   obtain⟨z1,z2⟩:=avU R2 hn h2 (by rw[e0];exact hp1) hL b2 hlq (kJ h1.1) h3 (λq x last hk4 hpe=>avT hk4 (by rw[e0];exact hp1) hpe);obtain⟨c1,c2,c3⟩:=oU R3.vd hFF;obtain⟨d1,d2,d3⟩:=oU R2.vd hFF;have es:gG (FF (w.put n ((w.au n).box r)) Z) l=gG (FF m G) l:=by unfold gG;rw[hFF _ hlq]
   have hvq:∀q,vq (w.put n ((w.au n).box r)) q=vq w q:=λq=>by
    funext j
    by_cases e:j=n
    ·subst e;unfold vq;rw[e0];rfl
    exact Ng (I j e)
   have hpn:(o5 λj=>tV ((w.put n ((w.au n).box r)).au j).PL)=o5 λj=>tV (w.au j).PL:=Cz λj _=>by
    show tV _=tV _
    by_cases e:j=n
    ·subst e;rw[e0];rfl
    rw[I j e]
   have hwc:=hws cu;have hwt:=hws (gG (FF m G));have hPw:PP (w.put n ((w.au n).box r)) (FF m G)+2*cu l<=PP w (FF m G):=by
    unfold PP;rw[hvq,hvq]
    show 2*(w.put n ((w.au n).box r)).ws cu+(pE (FF m G 0) (w.off.at 0).Pf (vq w 0)+pE (FF m G 1) (w.off.at 1).Pf (vq w 1))+_<=_
    omega
   have hZw:ZZ (w.put n ((w.au n).box r)) (FF m G)+16*cu l+2*gG (FF m G) l<=ZZ w (FF m G):=by
    unfold ZZ;rw[hpn];omega
   have hZ1:ZZ w (FF m G)<=ZZ m (FF m G):=by
    rcases O with⟨_,O⟩|⟨O,_⟩
    ·exact O
    exact av hp1 O
   have s1:=apu (F:=FF m G) l;have s2:=ak0 (F:=FF m G) l;refine⟨h1.1,h4,G2,R3,λq J=>by rw[F2 q J];exact hFF q J,by rw[<-c2];omega,?_,?_⟩
   ·rw[<-c1]
    rcases z2 with⟨_,z3,_⟩|⟨_,z3,_⟩
    ·omega
    by_cases c:gG (FF m G) l=0
    ·omega
    have:=s2 c;omega
   rw[<-c3]
   rcases z2 with⟨z0,_,z3⟩|⟨z0,_,z3⟩
   ·exact .inl ⟨z0,by omega⟩
   refine .inr ⟨z0,by omega,λh0=>?_⟩;have:gG (FF m G) l=0:=by omega
   omega) _ m E ⟨D8 hu ⟨_,hU⟩,G,R,λ_ _=>E,aB,aB,.inl ⟨hp,aB⟩⟩
  obtain⟨H1,Z,M,F1,S1,P1,O⟩:=key;rw[jX hu hp];obtain⟨c1,c2,c3⟩:=oU M.vd F1
  split
  ·rename_i hpm
   have hZ1:ZZ (m.more n) (FF m G)<=ZZ m (FF m G):=by
    rcases O with⟨_,O⟩|⟨O,_⟩
    ·exact O
    exact av hpm O
   obtain⟨G2,R2,F2⟩:=adE M hn;obtain⟨d1,d2,d3⟩:=adM M hn;obtain⟨e1,e2,e3⟩:=oU R2.vd F2;refine⟨G2,R2,λq J=>by rw[F2 q J,F1 q J];exact .refl _,by omega,by omega,.inl ⟨hp,?_,by omega,λq J=>by rw[F2 q J,F1 q J]⟩⟩
   show((Qv (m.more n).au n { (m.more n).au n with turn:=((m.more n).au n).turn+1}) n).PL=none
   rw[JR];exact hpm
  rename_i hpm
  have hZ1:ZZ (m.more n) (FF m G)+1<=ZZ m (FF m G)/\(m.ws (gG (FF m G))=0->ZZ (m.more n) (FF m G)+7<=ZZ m (FF m G)):=by
   rcases O with⟨O,_⟩|⟨_,O⟩
   ·exact av O hpm
   exact O
  exact⟨Z,M,λq J=>by rw[F1 q J];exact .refl _,by omega,by omega,.inr (.inr ⟨hp,hpm,by omega,λh=>by have:=hZ1.2 h;omega⟩)⟩
def apv(I:q<4)(J:l.q<4):(m.off.at q).Pf<=((dY m.off l).at q).Pf:=by
 unfold dY
 split
 ·rename_i c
  obtain⟨M,f2,f3,O,Z⟩:=Mr c.2;rw[Z];dsimp only;rw[dW,qg J I]
  split
  ·rename_i e
   obtain⟨_,_,w3⟩:=qd (d:=m.off) (q:=l.q) (λh=>h M);rw[e];rw[w3,dW]at O
   show(m.off.at l.q).Pf<=l.ep+1
   omega
  exact gI _
 exact gI _
def XB(h:q<4)(I:l.q<4):(m.off.at q).Pf<=((m.QG l).off.at q).Pf:=by
 unfold Cl.QG
 split
 ·exact gI _
 split
 ·split<;>exact apv h I
 split<;>exact gI _
def Tg:∀(ls:List bY) {m:Cl},q<4->(∀l∈ls,l.q<4)->(m.off.at q).Pf<=((ls.foldl Cl.QG m).off.at q).Pf
 |[],_,_,_=>gI _
 |l::ls,m,h,I=>by
  rw[wJ];exact Int.le_trans (XB h (I l iT)) (Tg ls h λx J=>I x (dZ _ J))
def apw(h:q<4)(I:∀l∈m.PI,l.q<4):(m.off.at q).Pf<=(m.all.off.at q).Pf:=Tg m.PI (m:={m with PI:=[]}) h I
def avW{T S fP K:Nat}(R:Rm m G B)(hb:eF m T S fP K):m.all.ws (gG (FF m G))<=m.ws (gG (FF m G))/\PP m.all (FF m G)<=PP m (FF m G)/\ZZ m.all (FF m G)<=ZZ m (FF m G)/\
  ((∀q,q<2->m.all.off.at q=m.off.at q)\/ZZ m.all (FF m G)+7<=ZZ m (FF m G)):=by
 obtain⟨R',hF⟩:=SN R hb;have hst:m.all.ws (gG (FF m G))<=m.ws (gG (FF m G)):=FB VI hb.nT;have hcl:m.all.ws cu<=m.ws cu:=FB JI hb.nT;have I:∀q,vq m.all q=vq m q:=λq=>by
  funext j
  obtain⟨ib,e⟩:=vN m j;unfold vq;rw[e];rfl
 have hpn:(o5 λj=>tV (m.all.au j).PL)=o5 λj=>tV (m.au j).PL:=Cz λj _=>by
  obtain⟨ib,e⟩:=vN m j
  show tV _=tV _
  rw[e]
 have hd:∀q,q<2->m.all.off.at q=m.off.at q\/(O6 (FF m G q) (m.all.off.at q).Pf+1<=O6 (FF m G q) (m.off.at q).Pf):=λq J=>by
  obtain⟨d,d1,d2,d3⟩:=(R.qi q J).dir;obtain⟨d',e1,e2,e3⟩:=(R'.qi q J).dir;have O:=apw (m:=m) (q:=q) (by omega) λl hl=>(hb.nT l hl).1;rw[d1,e1]at O⊢;dsimp only at O⊢;have hm:(FF m G q).M=(G q).m:=rfl;by_cases c:d'=d
  ·left;rw[c]
  right
  unfold O6;rw[hm,aj (by omega),ah (by omega)];exact aB
 have Z:∀q,q<2->O6 (FF m G q) (m.all.off.at q).Pf<=O6 (FF m G q) (m.off.at q).Pf:=λq J=>by
  rcases hd q J with h|h
  ·rw[h];exact aB
  omega
 have l0:=Z 0 (by decide);have l1:=Z 1 (by decide);have hP:PP m.all (FF m G)<=PP m (FF m G):=by
  unfold PP pE;rw[I,I];omega
 refine⟨hst,hP,by unfold ZZ;omega,?_⟩
 rcases hd 0 (by decide)with h0|h0
 ·rcases hd 1 (by decide)with h1|h1
  ·left
   intro q J;have:q=0\/q=1:=by omega
   rcases this with rfl|rfl
   ·exact h0
   exact h1
  right
  have:PP m.all (FF m G)+1<=PP m (FF m G):=by
   unfold PP pE;rw[I,I];omega
  unfold ZZ;omega
 right
 have:PP m.all (FF m G)+1<=PP m (FF m G):=by
  unfold PP pE;rw[I,I];omega
 unfold ZZ;omega
def Bn(m:Cl):Prop:= ∃T S fP K,eF m T S fP K
def Bn.step(h:Bn m)(hn:n<5):Bn (m.step n):=by obtain⟨T,S,fP,K,h⟩:=h;exact⟨_,_,_,_,Sw h hn⟩
def Bn.asO(h:Bn m):Bn m.all:=by obtain⟨T,S,fP,K,h⟩:=h;exact⟨_,_,_,_,Xj h⟩
noncomputable def Cl.dI(m:Cl):Nat->Cl
 | 0=>m
 |i+1=>(m.dI i).step i
noncomputable def Cl.o8(m:Cl):Cl:=(m.dI 5).all
structure Qt (m m':Cl):Prop where
 nU:∀n,n<5->(m.au n).PL=none
 asP:∀n,n<5->(m'.au n).PL=none
 off:∀q,q<2->m'.off.at q=m.off.at q
def sW(h:Bn m):∀i,i<=5->Bn (m.dI i)
 | 0,_=>h
 |i+1,hi=>(sW h i (by omega)).step (by omega)
def N8(h:Bn m):∀i,i<=5-> ∀j,i<=j->(m.dI i).au j=m.au j
 | 0,_,_,_=>rfl
 |i+1,hi,j,hj=>by
  obtain⟨T,S,fP,K,I⟩:=sW h i (by omega)
  show((m.dI i).step i).au j=_
  rw[pI I (by omega) (by omega)];exact N8 h i (by omega) j (by omega)
def XC(h:Bn m){n:Nat}:∀i,i<=5->n<i->(m.dI i).au n=(m.dI (n+1)).au n
 | 0,_,hn=>by omega
 |i+1,hi,hn=>by
  by_cases e:n=i
  ·subst e;rfl
  obtain⟨T,S,fP,K,I⟩:=sW h i (by omega)
  show((m.dI i).step i).au n=_
  rw[pI I (by omega) e];exact XC h i (by omega) (by omega)
def Oa{T S fP K:Nat}(M:eF m T S fP K)(hn:n<5):(m.step n).off=m.off:=by
 cases I:(m.au n).up with
 |false=>rw[oN I]
 |true=>
  obtain⟨rs,us,O⟩:=(M.jO n hn).xV I
  cases J:(m.au n).PL with
  |some p=>
   obtain⟨h1,Z,h3⟩:=O.JD p J;obtain⟨_,_,_,h⟩:=XA I J Z;exact h
  |none=>
   have H:=NP I ⟨us,O⟩ λl hl=>nu (M.jC n hn l hl);rw[jX I J]
   split
   ·exact H.keep.off
   exact H.keep.off
def MG(R:Rm m G B)(Z:B+46<=100000)(M:Bn m):∀i,i<=5-> ∃G',Rm (m.dI i) G' B/\(∀q,q<2->nI (FF m G q) (FF (m.dI i) G' q))/\(m.dI i).ws (gG (FF (m.dI i) G'))<=m.ws (gG (FF m G))/\PP (m.dI i) (FF (m.dI i) G')<=PP m (FF m G)/\
  (((∀n,n<i->(m.au n).PL=none/\((m.dI i).au n).PL=none)/\ZZ (m.dI i) (FF (m.dI i) G')<=ZZ m (FF m G)/\ ∀q,q<2->FF (m.dI i) G' q=FF m G q)\/
   (ZZ (m.dI i) (FF (m.dI i) G')+1<=ZZ m (FF m G)/\((∃n,n<5/\(m.au n).PL≠none)\/m.ws (gG (FF m G))≠0))\/ZZ (m.dI i) (FF (m.dI i) G')+7<=ZZ m (FF m G))
 | 0,_=>⟨G,R,λ_ _=>.refl _,aB,aB,.inl ⟨λn hn=>by omega,aB,λ_ _=>E⟩⟩
 |i+1,hi=>by
  obtain⟨G1,R1,W1,S1,P1,O⟩:=MG R Z M i (by omega);obtain⟨T,S,fP,K,h⟩:=sW M i (by omega);obtain⟨G2,R2,W2,S2,P2,Z2⟩:=adN R1 Z h (n:=i) (by omega);have e1:(m.dI i).au i=m.au i:=N8 M i (by omega) i aB;have I:∀n,n≠i->((m.dI i).step i).au n=(m.dI i).au n:=λn hn=>pI h (by omega) hn;refine⟨G2,R2,λq J=>(W1 q J).trans (W2 q J),fG S2 S1,fG P2 P1,?_⟩
  show(_/\ZZ ((m.dI i).step i) (FF ((m.dI i).step i) G2)<=_/\_)\/(ZZ ((m.dI i).step i) (FF ((m.dI i).step i) G2)+1<=_/\_)\/ZZ ((m.dI i).step i) (FF ((m.dI i).step i) G2)+7<=_
  rcases Z2 with⟨p1,p2,z,f⟩|⟨p1,z⟩|⟨p1,p2,z,z7⟩
  ·rcases O with⟨a1,a2,a3⟩|⟨a1,a2⟩|a1
   ·refine .inl ⟨λn hn=>?_,by omega,λq J=>(f q J).trans (a3 q J)⟩;by_cases e:n=i
    ·subst e;rw[e1]at p1;exact⟨p1,p2⟩
    obtain⟨b1,b2⟩:=a1 n (by omega);exact⟨b1,by show(((m.dI i).step i).au n).PL=none;rw[I n e];exact b2⟩
   ·exact .inr (.inl ⟨by omega,a2⟩)
   exact .inr (.inr (by omega))
  ·rcases O with⟨a1,a2,a3⟩|⟨a1,a2⟩|a1
   ·exact .inr (.inl ⟨by omega,.inl ⟨i,by omega,by rw[<-e1];exact p1⟩⟩)
   ·exact .inr (.inl ⟨by omega,a2⟩)
   exact .inr (.inr (by omega))
  rcases O with⟨a1,a2,a3⟩|⟨a1,a2⟩|a1
  ·by_cases c:(m.dI i).ws (gG (FF (m.dI i) G1))=0
   ·have:=z7 c;exact .inr (.inr (by omega))
   exact .inr (.inl ⟨by omega,.inr (by omega)⟩)
  ·exact .inr (.inl ⟨by omega,a2⟩)
  exact .inr (.inr (by omega))
def Ti(R:Rm m G B)(hB:B+46<=100000)(Z:Bn m):∃G',Rm m.o8 G' B/\Bn m.o8/\(∀q,q<2->nI (FF m G q) (FF m.o8 G' q))/\m.o8.ws (gG (FF m.o8 G'))<=m.ws (gG (FF m G))/\PP m.o8 (FF m.o8 G')<=PP m (FF m G)/\
  ((Qt m m.o8/\ZZ m.o8 (FF m.o8 G')<=ZZ m (FF m G)/\ ∀q,q<2->FF m.o8 G' q=FF m G q)\/
   (ZZ m.o8 (FF m.o8 G')+1<=ZZ m (FF m G)/\((∃n,n<5/\(m.au n).PL≠none)\/m.ws (gG (FF m G))≠0))\/ZZ m.o8 (FF m.o8 G')+7<=ZZ m (FF m G)):=by
 obtain⟨I,R1,W1,S1,P1,Z1⟩:=MG R hB Z 5 aB;have M:=sW Z 5 aB;obtain⟨T,S,fP,K,h⟩:=id M;obtain⟨R2,F2⟩:=SN R1 h;obtain⟨a1,a2,a3,a4⟩:=avW R1 h;obtain⟨c1,c2,c3⟩:=oU R2.vd F2;have WM:∀j,(m.o8.au j).PL=((m.dI 5).au j).PL:=λj=>by
  obtain⟨ib,e⟩:=vN (m.dI 5) j
  show((m.dI 5).all.au j).PL=_
  rw[e]
 have O:∀i,i<=5->(m.dI i).off=m.off:=by
  intro i
  induction i with
  |zero=>intro _;rfl
  |succ i ih=>
   intro hi;obtain⟨T,S,fP,K,h⟩:=sW Z i (by omega);exact(Oa h (by omega)).trans (ih (by omega))
 refine⟨I,R2,M.asO,λq J=>by show nI _ (FF (m.dI 5).all I q);rw[F2 q J];exact W1 q J,?_,?_,?_⟩
 ·show(m.dI 5).all.ws (gG (FF (m.dI 5).all I))<=_
  omega
 ·show PP (m.dI 5).all (FF (m.dI 5).all I)<=_
  omega
 show(Qt m m.o8/\ZZ (m.dI 5).all (FF (m.dI 5).all I)<=_/\ ∀q,q<2->FF (m.dI 5).all I q=_)\/(ZZ (m.dI 5).all (FF (m.dI 5).all I)+1<=_/\_)\/ZZ (m.dI 5).all (FF (m.dI 5).all I)+7<=_
 rcases Z1 with⟨b1,b2,b3⟩|⟨b1,b2⟩|b1
 ·rcases a4 with a4|a4
  ·refine .inl ⟨⟨λn hn=>(b1 n hn).1,λn hn=>by rw[WM];exact(b1 n hn).2,λq J=>?_⟩,by omega,λq J=>(F2 q J).trans (b3 q J)⟩
   show(m.dI 5).all.off.at q=_
   rw[a4 q J,O 5 aB]
  exact .inr (.inr (by omega))
 ·exact .inr (.inl ⟨by omega,b2⟩)
 exact .inr (.inr (by omega))
end
def JO(X:Nd)(d:UE):Prop:= ∀q,q<2->X.QA q=true->(X.bs q).GR=1->(X.bs q).ep<=(d.at q).Pf
structure Su (m:Cl):Prop where
 jO:∀n,n<5->JO (m.au n) m.off
 two:m.off.at 2=nowhere
 tre:m.off.at 3=nowhere
section
variable {m w m':Cl}{n q k:Nat}{l:bY}{p:cZ}{G G':Nat->Gh}{g g':Gh}{X dX:Nd}{d d':UE}{b:bF}
def JO.up(h:JO X d)(J:∀q,q<2->(d.at q).Pf<=(d'.at q).Pf)(h1:∀q,q<2->dX.QA q=true->(dX.bs q).GR=1->X.QA q=true/\(X.bs q).GR=1/\(dX.bs q).ep=(X.bs q).ep):JO dX d':=λq I hs M=>by
 obtain⟨a,b,c⟩:=h1 q I hs M;have:=h q I a b;have:=J q I;omega
def Su.at_(h:Su m)(J:∀j,j≠n->m'.au j=m.au j)(I:m'.off=m.off)(hn:JO (m'.au n) m.off):Su m':=by
 refine⟨λj M=>?_,by rw[I];exact h.two,by rw[I];exact h.tre⟩;rw[I];by_cases e:j=n
 ·rw[e];exact hn
 rw[J j e];exact h.jO j M
def BG(h:JO X d)(hs:dX.QA=X.QA)(M:dX.bs=Qv X.bs q b)(J:b.GR=1->(X.bs q).GR=1/\b.ep=(X.bs q).ep):JO dX d:=
 h.up (λ_ _=>gI _) λk O h1 I=>by
  rw[hs]at h1;rw[M]at I⊢;by_cases e:k=q
  ·subst e;rw[JR]at I⊢;exact⟨h1,(J I).1,(J I).2⟩
  rw[Ph e]at I⊢;exact⟨h1,I,E⟩
def Uq(hQ:∀q,q<2-> ∃g,QI m q g)(hv:Vd m){T S fP K:Nat}(hb:eF m T S fP K)(hn:n<5)(h:Su m):Su (m.step n):=by
 refine h.at_ (λj hj=>pI hb hn hj) (Oa hb hn) ?_;have Z:=h.jO n hn
 cases J:(m.au n).up with
 |false=>rw[oN J];exact Z
 |true=>
  obtain⟨rs,us,hU⟩:=(hb.jO n hn).xV J
  cases hp:(m.au n).PL with
  |some p=>
   obtain⟨_,h2,h3⟩:=hU.JD p hp
   cases p with
   |serve k JU op num a=>
    rw[kH E J hp E h2.1]
    show JO (Qv m.au n _ n) m.off
    rw[JR];exact BG Z E E λc=>⟨c,E⟩
   |QL k b=>
    obtain⟨_,e,f,h4,_⟩:=h2;rw[qb E J hp]
    show JO (Qv m.au n _ n) m.off
    rw[JR];exact BG Z E E λc=>by rw[h4]at c;exact av c (by show(4:Int)≠1;decide)
   |UK k b last=>
    cases last with
    |true=>
     rw[lK E J hp]
     show JO (Qv m.au n _ n) m.off
     rw[JR];refine Z.up (λ_ _=>gI _) λj hj M s2=>?_;by_cases e:j=k
     ·subst e;have O:Qv (m.au n).QA j false j=true:=M;rw[JR]at O
      cases O
     have e1:(Qv (m.au n).QA k false) j=(m.au n).QA j:=Ph e;have e2:(Qv (m.au n).bs k b) j=(m.au n).bs j:=Ph e;have O:(m.au n).QA j=true:=e1.symm.trans M;have s2':((m.au n).bs j).GR=1:=(bM bF.GR e2).symm.trans s2;exact⟨O,s2',bM bF.ep e2⟩
    |false=>
     obtain⟨h4,_,_,h5,_⟩:=h2;rw[vK E J hp]
     show JO (Qv m.au n _ n) m.off
     rw[JR];exact BG Z E E λc=>by rw[(h5 E).1]at c;exact av (h4.symm.trans c) (by decide)
   |gJ k b at_=>
    obtain⟨h4,h5⟩:=h2;rw[sw E J hp]
    show JO (Qv m.au n _ n) m.off
    rw[JR];exact BG Z E E λc=>by rw[h5]at c;exact av c (by show(3:Int)≠1;decide)
   |QE k b=>
    obtain⟨h4,h5⟩:=h2;rw[nW E J hp]
    show JO (Qv m.au n _ n) m.off
    rw[JR];exact BG Z E E λc=>by rw[h5]at c;exact av c (by show(0:Int)≠1;decide)
  |none=>
   have Uz:∀ {X:Nd} {l:bY},JO X m.off->l∈(m.au n).Pq->l.kd=6->JO (X.Uz n l) m.off:=λ{X l} hX hl hk j hj M s2=>by
    unfold Nd.Uz at M s2⊢;dsimp only at M s2⊢
    split at M
    ·rename_i c
     by_cases e:j=l.q
     ·subst e;obtain⟨g,I⟩:=hQ _ hj;obtain⟨i,i1,i2,i3,_⟩:=(I.nT l ⟨E,.inr ⟨n,hn,hl⟩⟩).2.2.2 hk;rw[c.2,i1];exact i3
     rw[Ph e]at M;exact hX j hj M s2
    exact hX j hj M s2
   have key:=qZ (n:=n) (λw=>Sv m n rs w/\JO (w.au n) m.off) (λw l r ⟨H,A⟩ hp1 hin=>by
    obtain⟨h1,h2,h3,h4⟩:=q8 (λl hl=>nu (hb.jC n hn l hl)) H hp1 hin;have hl0:l∈(m.au n).Pq:=H.jC l (by rw[hin];simp);refine⟨h1.1,h4,?_⟩;have e0:(w.put n ((w.au n).box r)).au n=(w.au n).box r:=bL _;have A0:JO ((w.au n).box r) m.off:=A;generalize (w.put n ((w.au n).box r)).QB n l=m2 at h3⊢;generalize w.put n ((w.au n).box r)=w2 at h3 e0;rw[<-e0]at A0;clear e0 h2 h4 hin hp1 A H
    cases h3 with
    |same=>exact A0
    |done a c1 c2=>rw[(xX (m:=w2)).2.1];exact A0
    |UG c1=>exact A0
    |part b c1 c2 c3 c4 c5 c6=>
     obtain⟨g1,g2,g3⟩:=sD (m:=w2.aF n l.q b) (n:=n) (q:=l.q) (a:=l.at_);rw[g2,show(w2.aF n l.q b).au n=(w2.au n).aF l.q b from bL _];refine BG A0 E E λc=>?_
     rcases c4 with⟨c4,c7,_⟩|⟨c4,c7⟩
     ·rw[c7]at c;exact av (c4.symm.trans c) (by decide)
     rw[c7]at c;exact av (c4.symm.trans c) (by decide)
    |PL p dX d c1 c2 c3 c4 c5=>
     rw[bL]
     rcases c1 with c1|⟨c0,c1⟩
     ·rw[c1];exact A0
     rw[c1];exact Uz A0 hl0 c0
    |Uz c1=>rw[bL];exact Uz A0 hl0 c1) _ m E ⟨D8 J ⟨_,hU⟩,Z⟩
   obtain⟨H1,A1⟩:=key;rw[jX J hp]
   split
   ·show JO (Qv (m.more n).au n { (m.more n).au n with turn:=((m.more n).au n).turn+1} n) m.off
    rw[JR];exact A1
   exact A1
def avX(h:Su m)(hn:∀j,j<5->(m'.au j).QA=(m.au j).QA/\(m'.au j).bs=(m.au j).bs)(O:∀q,q<2->(m.off.at q).Pf<=(m'.off.at q).Pf)(Z:m'.off.at 2=m.off.at 2)(h3:m'.off.at 3=m.off.at 3):Su m':=by
 refine⟨λj I=>(h.jO j I).up O λq hq J M=>?_,Z.trans h.two,h3.trans h.tre⟩;rw[(hn j I).1]at J;rw[(hn j I).2]at M⊢;exact⟨J,M,E⟩
def adP(h:Su m)(O:l.q<2):Su (m.QG l):=by
 refine avX h (λj _=>?_) (λq Z=>XB (by omega) (by omega)) ?_ ?_
 ·obtain⟨ib,e⟩:=Eb m l j;rw[e];exact⟨E,E⟩
 all_goals
  have I:∀q,2<=q->q<4->(dY m.off l).at q=m.off.at q:=λq h1 J=>by
   unfold dY
   split
   ·rename_i c
    obtain⟨_,_,_,_,M⟩:=Mr c.2;rw[M];dsimp only;rw[dW,qg (by omega) J,ah (by omega)]
   rfl
  unfold Cl.QG
  split
  ·rfl
  split
  ·split<;>exact I _ (by decide) (by decide)
  split<;>rfl
def XD:∀(ls:List bY) {m:Cl},Su m->(∀l∈ls,l.q<2)->Su (ls.foldl Cl.QG m)
 |[],_,h,_=>h
 |l::ls,m,h,I=>XD ls (adP h (I l iT)) λx J=>I x (dZ _ J)
def ZF(h:Su m)(hv:Vd m):Su m.all:=XD m.PI (m:={m with PI:=[]}) ⟨h.jO,h.two,h.tre⟩ hv.PI
end
section
variable {m:Cl}{n:Nat}{l:bY}{rs:List dN}{b:bF}{G:List Ev}
def ak1(h:qL (m.au n) rs []):0<=(m.au n).Qr/\(m.au n).Qr<=(m.au n).data.length:=by
 have h1:=h.Qr;have I:=bM length h.data;rw[bI]at I;omega
def EZ{xs:List dN}(I:qL (m.au n) rs [])(J:∀r∈xs,aM r=0)(h:(m.au n).data.length+46*xs.length<=100000):∃x,(m.au n).write xs=some x:=by
 obtain⟨h1,M⟩:=ak1 I;unfold Nd.write;rw[Ch J h1 M h];exact⟨_,E⟩
def Ur{P:dN->Prop}{r:dN}(h:P r):∀x∈[r],P x:=λx I=>by rw[aI]at I;subst I;exact h
def YX(M:l.kd=2)(I:qL (m.au n) rs [])(J:l.q<4)(hr:((m.au n).bs l.q).GR=0\/((m.au n).bs l.q).GR=4)(he:((m.au n).bs l.q).ep<l.ep)(h1:1<=l.ep/\l.ep<=1048576)(h2:0<=l.fr/\l.fr<=4)(hd:(m.au n).data.length+46<=100000):
 ((m.QB n l).au n).PL≠none:=by
 have O:=I.nE l.q J;rw[show m.QB n l=m.Uv n l by unfold Cl.QB;rw[ah (by omega),aj M]];have Z:dR ((m.au n).bs l.q) l.ep l.fr=(⟨4,l.ep,l.fr,0,0,[]⟩,0):=by
  unfold dR;rw[ah (λh=>h O),ah (by omega),ah (by omega),ah (by omega),ah (by omega)]
 obtain⟨x,hx⟩:=EZ (xs:=[gW 4 l.q l.ep l.fr aU]) I (Ur (sj (by decide) J (by omega) (by omega) (by decide))) (by rw[lZ];omega);unfold Cl.Uv;rw[Z];dsimp only;rw[ah (λh=>h E),ah (by omega),hx];dsimp only;rw[bL];simp
def YZ(I:l.kd=2)(J:aA ((m.au n).bs l.q)=0)(M:((m.au n).bs l.q).GR=4)(he:((m.au n).bs l.q).ep=l.ep)(O:((m.au n).bs l.q).fr=l.fr)(h1:1<=l.ep/\l.ep<=1048576)(h2:0<=l.fr/\l.fr<=4):m.QB n l=m.UG n l.q:=by
 rw[show m.QB n l=m.Uv n l by unfold Cl.QB;rw[ah (by omega),aj I]];have Z:dR ((m.au n).bs l.q) l.ep l.fr=((m.au n).bs l.q,0):=by
  unfold dR;rw[ah (λh=>h J),ah (by omega),ah (by omega),aj ⟨M,he,O⟩]
 unfold Cl.Uv;rw[Z];dsimp only;rw[ah (λh=>h E),aj E]
def PartOf(b:bF)(n q:Nat)(a:Int)(x:bY):Prop:=x.kd=4/\x.fr=n/\x.tg=b.tg/\x.q=q/\x.ep=b.ep+1/\x.at_=a/\x.JU=(b.JU.drop a.toNat).take 3/\x.last=decide (b.GR=3/\b.JU.length<=a.toNat+3)
def O7(J:aA b=0)(M:b.GR=2\/b.GR=3)(O:0<=l.at_/\l.at_<=b.JU.length)(he:(m.au n).bs l.q=b):∃x∈(m.part n l.q l.at_).PI,PartOf b n l.q l.at_ x:=by
 have I:ji b l.at_=((b.JU.drop l.at_.toNat).take 3,decide (b.GR=3/\b.JU.length<=l.at_.toNat+3),0):=by
  unfold ji;rw[ah (λh=>h J),ah (by omega),ah (by omega)]
 unfold Cl.part;rw[he,I];rw[ah (λh=>h E)];refine⟨Jv n l.q b l.at_,aL _ (aI.2 E),E,E,E,E,E,E,?_,?_⟩
 ·show(ji b l.at_).1=_;rw[I]
 show(ji b l.at_).2.1=_;rw[I]
def avY(hk:l.kd=3)(hU:qL (m.au n) rs [])(hq:l.q<4)(hr:((m.au n).bs l.q).GR=2\/((m.au n).bs l.q).GR=3)(ht:((m.au n).bs l.q).tg=l.fr)(he:((m.au n).bs l.q).ep+1=l.ep)(ha:0<=l.at_/\l.at_<=((m.au n).bs l.q).JU.length)(hd:(m.au n).data.length+46<=100000):
 ((m.QB n l).au n).PL≠none\/((((m.au n).bs l.q).GR=3\/l.at_< ((m.au n).bs l.q).JU.length)/\ ∃x∈(m.QB n l).PI,PartOf ((m.au n).bs l.q) n l.q l.at_ x):=by
 have M:=hU.nE l.q hq;rw[show m.QB n l=m.UL n l by unfold Cl.QB;rw[ah (by omega),ah (by omega),aj hk]];unfold Cl.UL;rw[ah (by omega)];have hs:=gH M;have I:∀b':bF,(((m.aF n l.q b').au n).bs l.q)=b':=λb'=>by rw[show(m.aF n l.q b').au n=(m.au n).aF l.q b' from bL _];exact JR _ _ _
 by_cases O:((m.au n).bs l.q).GR=3
 ·have J:bX ((m.au n).bs l.q) l.at_=((m.au n).bs l.q,0):=by
   unfold bX;rw[ah (λh=>h M),ah (by omega),ah (by omega),aj O]
  rw[J];dsimp only;rw[ah (λh=>h E),aj E];exact .inr ⟨.inl O,O7 (m:=m.aF n l.q ((m.au n).bs l.q)) M hr ha (I _)⟩
 have h2:((m.au n).bs l.q).GR=2:=by omega
 by_cases c:l.at_=((m.au n).bs l.q).JU.length\/((m.au n).bs l.q).rd=4
 ·left
  have J:bX ((m.au n).bs l.q) l.at_=({ (m.au n).bs l.q with GR:=3,rd:=0},0):=by
   unfold bX;rw[ah (λh=>h M),ah (by omega),ah (by omega),ah O,aj c]
  unfold bP at hs;obtain⟨x,hx⟩:=EZ (xs:=[gW 3 l.q ((m.au n).bs l.q).ep ((m.au n).bs l.q).tg aU]) hU (Ur (sj (by decide) hq (by omega) (by omega) (by decide))) (by rw[lZ];omega);rw[J];dsimp only;rw[ah (λh=>h E),ah (by omega),hx];dsimp only;rw[bL];simp
 right
 have J:bX ((m.au n).bs l.q) l.at_=({ (m.au n).bs l.q with rd:=((m.au n).bs l.q).rd+1},0):=by
  unfold bX;rw[ah (λh=>h M),ah (by omega),ah (by omega),ah O,ah c]
 rw[J];dsimp only;rw[ah (λh=>h E),aj E];have Z:aA { (m.au n).bs l.q with rd:=((m.au n).bs l.q).rd+1}=0:=by
  have:=Eh (b:=(m.au n).bs l.q) (hv:=l.at_) M (by rw[J]);rw[J]at this;exact this
 refine⟨.inr (by omega),?_⟩;obtain⟨x,x1,x2⟩:=O7 (m:=m.aF n l.q { (m.au n).bs l.q with rd:=((m.au n).bs l.q).rd+1}) (n:=n) (l:=l) Z (.inl h2) ha (I _);exact⟨x,x1,x2⟩
def apx(hk:l.kd=6)(J:qL (m.au n) rs [])(M:l.q<4)(Z:((m.au n).bs l.q).GR=3)(he:((m.au n).bs l.q).ep<l.ep)(hd:(m.au n).data.length+46<=100000):((m.QB n l).au n).PL≠none:=by
 have O:=J.nE l.q M;rw[show m.QB n l=m.U1 n l by unfold Cl.QB;rw[ah (by omega),ah (by omega),ah (by omega),ah (by omega)]];have hs:=gH O;unfold bP at hs;have hF:gZ ((m.au n).bs l.q) l.ep=(⟨0,((m.au n).bs l.q).ep,0,0,0,[]⟩,0):=by
  unfold gZ;rw[ah (λh=>h O),ah (λh=>h Z),ah (by omega)]
 obtain⟨x,hx⟩:=EZ (xs:=[gW 7 l.q ((m.au n).bs l.q).ep 0 aU]) J (Ur (sj (by decide) M (by omega) (by omega) (by decide))) (by rw[lZ];omega);obtain⟨d,hw,hxe⟩:=rQ hx;have I:((m.au n).Uz n l).write [gW 7 l.q ((m.au n).bs l.q).ep 0 aU]=some { (m.au n).Uz n l with data:=d}:=by
  unfold Nd.write;rw[show((m.au n).Uz n l).data=(m.au n).data from E,show((m.au n).Uz n l).Qr=(m.au n).Qr from E,hw];rfl
 unfold Cl.U1;rw[hF];dsimp only;rw[ah (λh=>h E),I];dsimp only;rw[bL];simp
def avZ(hk:l.kd=4)(hU:qL (m.au n) rs [])(hq:l.q<4)(hr:((m.au n).bs l.q).GR=4)(hf:((m.au n).bs l.q).fr=l.fr)(he:((m.au n).bs l.q).ep=l.ep)(ha:0<=l.at_/\l.at_<=((m.au n).bs l.q).JU.length)
  (h1:((m.au n).bs l.q).JU=G.take ((m.au n).bs l.q).JU.length) (h2:l.JU=(G.drop l.at_.toNat).take l.JU.length) (h3:l.at_.toNat+l.JU.length<=G.length) (M:((m.au n).bs l.q).JU.length<l.at_.toNat+l.JU.length\/l.last=true) (h5:l.last=true->l.at_.toNat+l.JU.length=G.length)
  (hg:UH G) (hg2:UH (G++[bC])) (hd:(m.au n).data.length+46*(G.length+1-((m.au n).bs l.q).JU.length)<=100000):((m.QB n l).au n).PL≠none:=by
 have hb:=hU.nE l.q hq;have hs:=gH hb;have hlen:((m.au n).bs l.q).JU.length<=G.length:=by have:=bM length h1;rw[dV]at this;omega
 rw[show m.QB n l=m.UK n l by unfold Cl.QB;rw[ah (by omega),ah (by omega),ah (by omega),aj hk]];generalize hB:(m.au n).bs l.q=b at*;obtain⟨k,Z⟩:∃k:Nat,l.at_=k:=⟨l.at_.toNat,by omega⟩;rw[Z,dW]at h2 h3 M h5;rw[Z]at ha;have hkb:k<=b.JU.length:=by omega
 have hj:b.JU.length<=k+l.JU.length:=by
  rcases M with M|M
  ·omega
  have:=h5 M;omega
 have hd1:l.JU.drop (b.JU.length-k)=(G.drop b.JU.length).take (k+l.JU.length-b.JU.length):=by
  rw[bM (List.drop (b.JU.length-k)) h2,Bg,lT,show k+(b.JU.length-k)=b.JU.length by omega]
  congr 1
  omega
 have e1:b.JU++l.JU.drop (b.JU.length-k)=G.take (k+l.JU.length):=by
  rw[hd1]
  conv=>lhs;lhs;rw[h1]
  have:=take_add (l:=G) (i:=b.JU.length) (j:=k+l.JU.length-b.JU.length);rw[show b.JU.length+(k+l.JU.length-b.JU.length)=k+l.JU.length by omega]at this;exact this.symm
 have e2:(b.JU.drop k).take l.JU.length=l.JU.take (b.JU.length-k):=by
  have a1:b.JU.drop k=(G.drop k).take (b.JU.length-k):=by
   conv=>lhs;rw[h1]
   rw[Bg]
  have a2:l.JU.take (b.JU.length-k)=(G.drop k).take (min (b.JU.length-k) l.JU.length):=by
   conv=>lhs;rw[h2]
   rw[yO]
  rw[a1,a2,yO,Nat.min_comm]
 have hge:UH (G.take (k+l.JU.length)):=xR hg;obtain⟨es,O⟩:∃es,G.take (k+l.JU.length)=es:=⟨_,E⟩;have hel:es.length=k+l.JU.length:=by rw[<-O,dV];omega
 rw[O]at e1 hge;unfold bP at hs;obtain⟨res,hres,hrl,J⟩:∃res:bF,dM b l.ep l.at_ l.JU l.last=(res,0)/\res.JU.length=k+l.JU.length+(if l.last=true then 1 else 0)/\(res.JU=if l.last=true then es++[bC]else es)/\res.ep=b.ep:=by
  have hz:aA (if l.last=true then⟨1,l.ep,0,0,0,es++[bC]⟩else{b with JU:=es})=0:=by
   split
   ·rename_i c
    have:es=G:=by rw[<-O,h5 c,jy]
    rw[this];exact oh (AU (by omega) (by omega) _) hg2
   exact oh (p9 (gH hb) (by omega) _) hge
  refine⟨if l.last=true then⟨1,l.ep,0,0,0,es++[bC]⟩else{b with JU:=es},?_,?_,?_,?_⟩
  ·unfold dM;rw[Z,dW,e1];rw[ah (λh=>h hb),ah (λh=>h hr),ah (λh=>h he),ah (by omega),ah (λh=>h e2),ah (by omega),ah (λh=>h hz)]
  ·split
   ·show(es++[bC]).length=_;rw[aY,lZ,hel]
   exact hel
  ·split<;>rfl
  split
  ·exact he.symm
  rfl
 obtain⟨J,hre⟩:=J;have hgt:b.JU.length<res.JU.length:=by
  rw[hrl]
  split
  ·omega
  rename_i c
  rcases M with M|M
  ·omega
  exact av M c
 have hfe:∀e∈res.JU,bJ e=0:=by
  rw[J]
  split
  ·rename_i c
   have:es=G:=by rw[<-O,h5 c,jy]
   rw[this];exact Dt E hg2
  exact Dt E hge
 unfold Cl.UK;rw[hB,hres];dsimp only;rw[ah (by omega),ah (by decide),ah (by rintro(h|h)<;>omega)];obtain⟨x,hx⟩:=EZ (xs:=sJ l.q res b.JU.length (l.at_.toNat+l.JU.length) l.last) hU (λr I=>by
  unfold sJ at I
  rcases bD.1 I with I|I
  ·obtain⟨e,he1,rfl⟩:=nJ.1 I;exact sj (by decide) hq (by omega) (by decide) (by
    rw[aj (by decide)];exact hfe e (mem_of_mem_take (TQ he1)))
  ·split at I
   ·rw[aI]at I;subst I;exact sj (by decide) hq (by omega) (by decide) (by decide)
   simp at I) (by
  have:(sJ l.q res b.JU.length (l.at_.toNat+l.JU.length) l.last).length<=G.length+1-b.JU.length:=by
   unfold sJ;rw[aY,gK,dL,dV];by_cases c:l.last=true
   ·rw[aj c,lZ];omega
   rw[ah c,length_nil];omega
  omega)
 rw[hx];dsimp only;rw[bL];simp
end
structure Sm (b' b:bF):Prop where
 GR:b'.GR=b.GR
 ep:b'.ep=b.ep
 fr:b'.fr=b.fr
 tg:b'.tg=b.tg
 JU:b'.JU=b.JU
def Sm.refl(b:bF):Sm b b:=⟨E,E,E,E,E⟩
def Sm.trans{a b c:bF}(h:Sm a b)(I:Sm b c):Sm a c:=⟨h.GR.trans I.GR,h.ep.trans I.ep,h.fr.trans I.fr,h.tg.trans I.tg,h.JU.trans I.JU⟩
def aiP(b:bF)(n q:Nat)(x:bY):Prop:=x.kd=3/\x.fr=n/\x.tg=b.fr/\x.q=q/\x.ep=b.ep/\x.at_=b.JU.length
structure XE (F:Wy)(b:bF)(n:Nat)(l:bY)(PI:List bY):Prop where
 new:l.kd=2->(b.GR=0\/b.GR=4)->b.ep<l.ep->False
 off:l.kd=2->b.GR=4->b.ep=l.ep->b.fr=l.fr-> ∃x∈PI,aiP b n l.q x
 hav:l.kd=3->(b.GR=2\/b.GR=3)->b.tg=l.fr->b.ep+1=l.ep->0<=l.at_/\l.at_<=b.JU.length->(b.GR=3\/l.at_<b.JU.length)/\ ∃x∈PI,PartOf b n l.q l.at_ x
 prt:l.kd=4->F.R=1->(n:Int)=F.tg->l.ep=F.M+1->b.GR=4->b.fr=l.fr->b.ep=l.ep->l.at_=b.JU.length->(l.JU≠[]\/l.last=true)->False
 lrn:l.kd=6->b.GR=3->b.ep<l.ep->False
section
variable {m w m':Cl}{n q B:Nat}{l:bY}{p:cZ}{G G':Nat->Gh}{g g':Gh}{rs us:List dN}{F:Wy}{b b':bF}{fl VG:List bY}{d:Int}
def XE.mono(h:XE F b n l fl)(M:∀x∈fl,x∈VG):XE F b n l VG:=
 ⟨h.new,λa b c d=>by obtain⟨x,I,J⟩:=h.off a b c d;exact⟨x,M x I,J⟩,λa b c d e=>by obtain⟨y,x,I,J⟩:=h.hav a b c d e;exact⟨y,x,M x I,J⟩,h.prt,h.lrn⟩
def XE.sm(h:XE F b n l fl)(s:Sm b b'):XE F b' n l fl:=by
 refine⟨λa c d=>h.new a (by rw[s.GR];exact c) (by rw[s.ep];exact d),λa c d e=>?_,λa c d e f=>?_,λa c d e f i j k u=>h.prt a c d e (by rw[s.GR];exact f) (by rw[s.fr];exact i) (by rw[s.ep];exact j) (by rw[s.JU];exact k) u,λa c d=>h.lrn a (by rw[s.GR];exact c) (by rw[s.ep];exact d)⟩
 ·obtain⟨x,J,I⟩:=h.off a (by rw[s.GR];exact c) (by rw[s.ep];exact d) (by rw[s.fr];exact e);unfold aiP at I;rw[s.fr,s.ep,s.JU]at I;exact⟨x,J,I⟩
 obtain⟨y,x,J,I⟩:=h.hav a (by rw[s.GR];exact c) (by rw[s.tg];exact d) (by rw[s.ep];exact e) (by rw[s.JU];exact f);unfold PartOf at I;rw[s.tg,s.ep,s.JU,s.GR]at I;rw[s.GR,s.JU]at y;exact⟨y,x,J,I⟩
def ZG(H:Hnd m n l m')(q:Nat):Sm ((m'.au n).bs q) ((m.au n).bs q):=by
 cases H with
 |same=>exact .refl _
 |done a h1 I=>rw[(xX (m:=m)).2.1];exact .refl _
 |UG h1=>exact .refl _
 |part b h1 I J h M O=>
  obtain⟨Z,g2,g3⟩:=sD (m:=m.aF n l.q b) (n:=n) (q:=l.q) (a:=l.at_);rw[g2,show(m.aF n l.q b).au n=(m.au n).aF l.q b from bL _];by_cases e:q=l.q
  ·rw[e,show((m.au n).aF l.q b).bs l.q=b from JR _ _ _]
   rcases h with⟨_,h,_⟩|⟨_,h⟩<;>rw[h]<;>exact⟨E,E,E,E,E⟩
  rw[show((m.au n).aF l.q b).bs q=(m.au n).bs q from Ph e];exact .refl _
 |PL p dX d h1 I J h M=>
  rw[bL]
  rcases h1 with h1|⟨_,h1⟩<;>rw[h1]<;>exact .refl _
 |Uz h1=>rw[bL];exact .refl _
def apy(R:Rmc m G B (uF (FF m G) l) (cu l))(hB:B+46<=100000)(hn:n<5)(hU:qL (m.au n) rs [])(hp:(m.au n).PL=none)(hL:Hz (G l.q) (vw m l.q) (m.off.at l.q) l)(hlq:l.q<2)(hq:((m.QB n l).au n).PL=none):
 XE (FF m G l.q) ((m.au n).bs l.q) n l (m.QB n l).PI:=by
 have hu:=R.up n hn;have I:=R.qi _ hlq;have hV:=jk (q:=l.q) hu;have hcap:=R.cap _ hlq;have hM:=I.aax;have Z:=R.Dv n hn;have hd:(m.au n).data.length+46<=100000:=by unfold Dv at Z;omega
 have hb:=hU.nE l.q (by omega);have hoff:l.kd=2->(1<=l.ep/\l.ep<=1048576)/\(0<=l.fr/\l.fr<=4):=λJ=>by
  obtain⟨k,k1,k2,k3,k4⟩:=hL.1 J;have:=I.Z5 k k2 k3;omega
 refine⟨λJ O he=>?_,λJ O he hf=>?_,λJ O ht he ha=>?_,λJ hR ht he O hf hbe ha hne=>?_,λJ O he=>?_⟩
 ·obtain⟨h1,h2⟩:=hoff J;exact YX J hU (by omega) O he h1 h2 hd hq
 ·obtain⟨h1,h2⟩:=hoff J;rw[YZ J hb O he hf h1 h2];exact⟨qI n l.q ((m.au n).bs l.q),aL _ (aI.2 E),E,E,E,E,E,E⟩
 ·rcases avY J hU (by omega) O ht he ha hd with h|h
  ·exact av hq h
  exact h
 ·obtain⟨k,k1,k2,k3,k4,k5,k6,k7,k8⟩:=hL.2.1 J;have hm:(FF m G l.q).M=(G l.q).m:=rfl;have hkm:k=(G l.q).m:=by omega
  subst hkm;have hbd:(G l.q).bd (G l.q).m=(G l.q).G.length:=aj E;rw[hbd]at k7;have Qz:n≠(G l.q).o:=I.sF (.inr (by rw[hV];exact O));have hev:((m.au n).bs l.q).JU=(G l.q).G.take ((m.au n).bs l.q).JU.length:=by
   rcases I.p8 n hn Qz with⟨h5,_⟩|⟨_,h5,_⟩|⟨k',_,h2,h3,h4,_,h6,_⟩
   ·rw[hV]at h5;omega
   ·rw[hV]at h5;omega
   rw[hV]at h6;exact h6
  have hlen:((m.au n).bs l.q).JU.length<=(G l.q).G.length:=by have:=bM length hev;rw[dV]at this;omega
  have hlast:l.last=true->l.at_.toNat+l.JU.length=(G l.q).G.length:=λh=>by
   rcases k8 h with⟨h1,_⟩|⟨_,_,_,h1⟩
   ·omega
   exact h1
  refine avZ (G:=(G l.q).G) J hU (by omega) O hf hbe ⟨by omega,by omega⟩ hev k6 k7 ?_ hlast I.gd (akY I.gd (by omega)) ?_ hq
  ·rcases hne with h|h
   ·left
    have:=length_pos_iff.2 h;omega
   exact .inr h
  have hfi:46*(302-((m.au n).bs l.q).JU.length)<=fi (FF m G l.q) n (qK (m.au n) l.q):=by
   rw[jP hp];unfold fi Xt;rw[aj ⟨hR,ht⟩,aj (by omega)];omega
  have h01:l.q=0\/l.q=1:=by omega
  unfold Dv at Z
  rcases h01 with e|e<;>rw[e]at hfi hcap hR hlen⊢ <;>omega
 exact apx J hU (by omega) O he hd hq
def adQ(b:bF)(n q:Nat)(x:bY):Prop:=x.kd=2/\x.fr=n/\x.tg=b.tg/\x.q=q/\x.ep=b.ep+1
def aiQ(b:bF)(n q:Nat)(x:bY):Prop:=x.kd=5/\x.fr=n/\x.tg= -2/\x.q=q/\x.ep=b.ep-1/\x.nd=n
structure Dut (b:bF)(d:Int)(n q:Nat)(PI:List bY):Prop where
 off:b.GR=2\/b.GR=3-> ∃x∈PI,adQ b n q x
 ask:b.GR=3->RV n q∈PI
 flp:b.GR=1->1<b.ep-> ¬b.ep<=d-> ∃x∈PI,aiQ b n q x
def Dut.mono(h:Dut b d n q fl)(I:∀x∈fl,x∈VG):Dut b d n q VG:=
 ⟨λa=>by obtain⟨x,J,M⟩:=h.off a;exact⟨x,I x J,M⟩,λa=>I _ (h.ask a),λa b c=>by obtain⟨x,J,M⟩:=h.flp a b c;exact⟨x,I x J,M⟩⟩
structure QS (m m':Cl)(F:Nat->Wy)(n:Nat):Prop where
 eB:m'.ws cu+eG cu (m.au n).Pq<=m.ws cu
 aay:m'.ws (gG F)+eG (gG F) (m.au n).Pq<=m.ws (gG F)
 bs:∀q,Sm ((m'.au n).bs q) ((m.au n).bs q)
 Jw:(m'.au n).turn=(m.au n).turn+1
 jC:(m'.au n).Pq=[]
 PI:∀x∈m.PI,x∈m'.PI
 rep:∀l∈(m.au n).Pq,XE (F l.q) ((m.au n).bs l.q) n l m'.PI
 dut:(m.au n).turn % 4<2->Dut ((m.au n).bs ((m.au n).turn % 4)) (m.off.at ((m.au n).turn % 4)).Pf n ((m.au n).turn % 4) m'.PI
def XF:∀(k:Nat) (w:Cl),(w.au n).Pq.length=k->(∀l∈(w.au n).Pq,l.q<4)->((w.more n).au n).PL=none->((w.more n).au n).Pq=[]
 | 0,w,I,_,_=>by rw[NJ (qY.1 I)];exact qY.1 I
 |k+1,w,I,hi,hp=>by
  cases h:(w.au n).Pq with
  |nil=>rw[h]at I;simp at I
  |cons l r=>
   have M:=hi l (by rw[h];exact iT);by_cases J:(w.au n).PL=none
   ·rw[Kl J h M]at hp⊢;have e:=(kJ (m:=w.put n ((w.au n).box r)) (n:=n) (l:=l) M).jC;rw[bL]at e;have O:(((w.put n ((w.au n).box r)).QB n l).au n).Pq=r:=e;refine XF k _ (by rw[O];rw[h]at I;simpa using I) (λx Z=>?_) hp;rw[O]at Z;exact hi x (by rw[h];exact dZ _ Z)
   rw[EN J]at hp;exact av hp J
def apz(R:Rmc m G B (uF (FF m G) l) (cu l))(hn:n<5)(hp:(m.au n).PL=none)(M:l.q<2)(H:Hnd m n l m'):∃new,m'.PI=m.PI++new/\ ∀x∈new,cu x=0/\gG (FF m G) x=0:=by
 have hu:=R.up n hn;obtain⟨new,hf,h⟩:=MB hu H;obtain⟨new2,J,I⟩:=N7 H;have en:new2=new:=adL (J.symm.trans hf);subst en;refine⟨new2,J,λx O=>⟨vM (h x O).1,?_⟩⟩;obtain⟨h1,h2⟩:=h x O;by_cases h4:x.kd=4
 ·obtain⟨h5,h6,h7,h8⟩:=h2 h4;refine FT (.inr ?_);rw[h5];have Z:=jk (q:=l.q) hu;exact xY (R.qi _ M) hn (by rw[Z];exact h6) (by rw[Z];exact h7) (by rw[Z];exact h8)
 exact FT (.inl ⟨I x O,h4⟩)
def XG(hn:n<5):(m.lM n).ws cu<=m.ws cu:=by
 have I:(m.lM n).au=Qv m.au n {m.au n with turn:=(m.au n).turn+1}:=rfl;refine qP hn (λj M=>by rw[I,Ph M]) (by rw[I,JR]) E λx h=>?_;have J:∀y:bY,y.kd≠0->cu y=0:=λy O=>vM O;unfold iG at h
 rcases bD.1 h with h|h
 ·rcases bD.1 h with h|h
  ·split at h
   ·rw[aI]at h;subst h;exact J _ (by show(2:Int)≠0;decide)
   simp at h
  split at h
  ·rw[aI]at h;subst h;exact J _ (by show(5:Int)≠0;decide)
  simp at h
 split at h
 ·rw[aI]at h;subst h;exact J _ (by show(5:Int)≠0;decide)
 simp at h
def apA{r:List bY}(R:Rm w G B)(hn:n<5)(J:(w.au n).Pq=l::r):Rmc (w.put n ((w.au n).box r)) G B (uF (FF (w.put n ((w.au n).box r)) G) l) (cu l)/\FF (w.put n ((w.au n).box r)) G=FF w G/\(∀q,vw (w.put n ((w.au n).box r)) q=vw w q):=by
 have I:(w.put n ((w.au n).box r)).au=Qv w.au n ((w.au n).box r):=rfl;have e0:(w.put n ((w.au n).box r)).au n=(w.au n).box r:=bL _;have h:∀j,j≠n->(w.put n ((w.au n).box r)).au j=w.au j:=λj M=>Ph M;have O:∀q,vw (w.put n ((w.au n).box r)) q=vw w q:=λq=>oP I E;have Z:FF (w.put n ((w.au n).box r)) G=FF w G:=by funext q;exact JK (.refl _) (by rw[O]) (by rw[O])
 have hws:∀f:bY->Nat,(w.put n ((w.au n).box r)).ws f+f l<=w.ws f:=λf=>Le hn (λj M=>by rw[h j M]) (by
  rw[e0,J]
  show eG f w.PI+eG f r+f l<=eG f w.PI+(f l+eG f r)
  omega)
 refine⟨⟨λj M=>?_,R.vd.at_ (n:=n) (X:=(w.au n).box r) E (λq h7 h8=>R.vd.rol n hn q h7 h8) (R.vd.nU n hn) (λx hx=>R.vd.jC n hn x (by rw[J];exact dZ _ hx)) (λx hx=>.inl hx),λq hq=>?_,λj M=>?_,λq hq=>?_⟩,Z,O⟩
 ·by_cases e:j=n
  ·rw[e,e0];exact R.up n hn
  rw[h j e];exact R.up j M
 ·exact(R.qi q hq).far hn I E E E (λx hx=>by rw[J];exact dZ _ hx) (λx hx=>.inl hx) E E E
 ·have h5:=R.Dv j M;have h6:=hws (uF (FF w G));unfold Dv at h5⊢;rw[Z];by_cases e:j=n
  ·rw[e]at h5⊢;rw[e0];have e1:∀q,qK ((w.au n).box r) q=qK (w.au n) q:=λ_=>E;have e2:((w.au n).box r).data=(w.au n).data:=rfl;rw[e1,e1,e2];omega
  rw[h j e];omega
 have h5:=R.cap q hq;have h6:=JJ (d:=cu l) (d':=cu l) hn h (hws cu) (by rw[e0];show ES (w.au n).PL+_<=_;omega);rw[Z];omega
def quiet_step{T S fP K:Nat}(R:Rm m G B)(hB:B+46<=100000)(hb:eF m T S fP K)(hn:n<5)(hS:Su (m.step n))(hp:(m.au n).PL=none)(hp':((m.step n).au n).PL=none):QS m (m.step n) (FF m G) n:=by
 have hu:=R.up n hn;obtain⟨rs,us,hU⟩:=(hb.jO n hn).xV hu;have key:=qZ (n:=n) (λw=>Sv m n rs w/\(∃G1,Rm w G1 B/\ ∀q,q<2->FF w G1 q=FF m G q)/\(∀q,Sm ((w.au n).bs q) ((m.au n).bs q))/\(∀x∈m.PI,x∈w.PI)/\(w.ws cu+eG cu (m.au n).Pq<=m.ws cu+eG cu (w.au n).Pq/\w.ws (gG (FF m G))+eG (gG (FF m G)) (m.au n).Pq<=m.ws (gG (FF m G))+eG (gG (FF m G)) (w.au n).Pq)/\
   ((w.au n).PL=none-> ∀l∈(m.au n).Pq,l∈(w.au n).Pq\/XE (FF m G l.q) ((m.au n).bs l.q) n l w.PI)) (λw l r ⟨H,⟨G1,R1,F1⟩,A,Af,⟨Ac,As⟩,Ar⟩ M J=>by
  obtain⟨h1,h2,h3,h4⟩:=q8 (λl hl=>nu (hb.jC n hn l hl)) H M J;have hl0:l∈(w.au n).Pq:=by rw[J];simp
  obtain⟨b1,b2⟩:=hb.jC n hn l (H.jC l hl0);have O:=R1.vd.jC n hn l hl0;have e0:(w.put n ((w.au n).box r)).au n=(w.au n).box r:=bL _;obtain⟨R2,hF1,hvw⟩:=apA R1 hn J;have hL:∀q,q<2->l.q=q->Hz (G1 q) (vw (w.put n ((w.au n).box r)) q) (w.off.at q) l:=λq hq agu=>by rw[hvw];exact(R1.qi q hq).nT l ⟨agu,.inr ⟨n,hn,hl0⟩⟩
  obtain⟨G2,R3,F2⟩:=Zv R2 hB hn h2 (by rw[e0];exact M) hL b2 b1.2.1 b1.2.2.2 O (kJ h1.1) h3;have Z:∀x∈w.PI,x∈((w.put n ((w.au n).box r)).QB n l).PI:=λx I=>by
   obtain⟨new,hf,_⟩:=N7 h3;rw[hf];exact bO _ I
  have ay8:∀q,Sm (((w.put n ((w.au n).box r)).au n).bs q) ((m.au n).bs q):=λq=>by rw[e0];exact A q
  refine⟨h1.1,h4,⟨G2,R3,λq hq=>by rw[F2 q hq,hF1];exact F1 q hq⟩,λq=>(ZG h3 q).trans (ay8 q),λx I=>Z x (Af x I),?_,λhpe x I=>?_⟩
  ·obtain⟨new,hf,hnw⟩:=apz R2 hn (by rw[e0];exact M) O h3;have l7:=kJ (m:=w.put n ((w.au n).box r)) (n:=n) (l:=l) h1.1;have hi2:(((w.put n ((w.au n).box r)).QB n l).au n).Pq=r:=by rw[l7.jC,e0];rfl
   have hoth:∀j,j≠n->(w.put n ((w.au n).box r)).au j=w.au j:=λj hj=>Ph hj;have hws:∀f:bY->Nat,(w.put n ((w.au n).box r)).ws f+f l<=w.ws f:=λf=>Le hn (λj hj=>by rw[hoth j hj]) (by
    rw[e0,J]
    show eG f w.PI+eG f r+f l<=eG f w.PI+(f l+eG f r)
    omega)
   have c1:=qP (f:=cu) hn l7.p8 l7.jC hf λx I=>(hnw x I).1;have c2:=qP (f:=gG (FF m G)) hn l7.p8 l7.jC hf λx I=>by
    have:=(hnw x I).2;have hxq:x.q<2:=R3.vd.PI x (by rw[hf];exact aL _ I);rw[hF1]at this;unfold gG at this⊢;rw[<-F1 _ hxq];exact this
   have h5:=hws cu;have h6:=hws (gG (FF m G));rw[hi2];rw[J,eG]at Ac As;exact⟨by omega,by omega⟩
  rcases Ar M x I with I|I
  ·rw[J]at I
   rcases iR.1 I with I|I
   ·subst I
    right
    have:=apy R2 hB hn h2 (by rw[e0];exact M) (hL _ O E) O hpe;rw[hF1,F1 _ O]at this;exact this.sm (ay8 _)
   left
   have e:=(kJ (m:=w.put n ((w.au n).box r)) (n:=n) (l:=l) h1.1).jC;rw[e0]at e;rw[e];exact I
  exact .inr (I.mono Z)) _ m E ⟨D8 hu ⟨_,hU⟩,⟨G,R,λ_ _=>E⟩,λ_=>.refl _,λ_ h=>h,⟨aB,aB⟩,λ_ l hl=>.inl hl⟩
 obtain⟨H,⟨G1,R1,F1⟩,A,Af,⟨Ac,As⟩,Ar⟩:=key;rw[jX hu hp]at hp' hS⊢;by_cases c:((m.more n).au n).PL=none
 ·rw[aj c]at hp' hS⊢;have hi0:=XF (n:=n) _ m E (λl hl=>(hb.jC n hn l hl).1.1) c;have e1:((m.more n).lM n).au n={ (m.more n).au n with turn:=((m.more n).au n).turn+1}:=by
   show Qv (m.more n).au n _ n=_
   exact JR _ _ _
  have htr:=H.Jw;have Z:∀x∈(m.more n).PI,x∈((m.more n).lM n).PI:=λx I=>bO _ I;have hdc:=XG (m:=m.more n) hn;have hds:=(adM R1 hn).1;have hcg:((m.more n).lM n).ws (gG (FF m G))<=(m.more n).ws (gG (FF m G)):=by
   obtain⟨_,c2,_⟩:=oU (Ul R1.vd hn (R1.up n hn)) F1;obtain⟨_,c3,_⟩:=oU R1.vd F1;omega
  rw[hi0,eG]at Ac As;refine⟨by omega,by omega,λq=>by rw[e1];exact A q,by rw[e1];show((m.more n).au n).turn+1=_;rw[htr],by rw[e1];exact hi0,λx I=>Z x (Af x I),λl hl=>?_,λh4=>?_⟩
  ·rcases Ar c l hl with h|h
   ·rw[hi0]at h;cases h
   exact h.mono Z
  have hA:=A ((m.au n).turn % 4);have hsu:=hS.jO n hn ((m.au n).turn % 4) h4;rw[e1]at hsu;have hoff:((m.more n).lM n).off=m.off:=H.keep.off;rw[hoff]at hsu;have hm:∀x,x∈iG n ((m.au n).turn % 4) (((m.more n).au n).bs ((m.au n).turn % 4)) (((m.more n).au n).QA ((m.au n).turn % 4))->x∈((m.more n).lM n).PI:=λx I=>by
   show x∈(m.more n).PI++iG n (((m.more n).au n).turn % 4) (((m.more n).au n).bs (((m.more n).au n).turn % 4)) (((m.more n).au n).QA (((m.more n).au n).turn % 4))
   rw[htr];exact aL _ I
  refine⟨λhr=>⟨_,hm _ (bO _ (bO _ (by rw[aj (by rw[hA.GR];exact hr)];exact aI.2 E))),E,E,hA.tg,E,by show _+1=_;rw[hA.ep]⟩,λhr=>hm _ (bO _ (aL _ (by rw[aj (by rw[hA.GR];exact hr)];exact aI.2 E))),λhr he hd=>?_⟩;have hns:((m.more n).au n).QA ((m.au n).turn % 4)=false:=by
   cases hs:((m.more n).au n).QA ((m.au n).turn % 4)with
   |false=>rfl
   |true=>
    have h5:(((m.more n).au n).bs ((m.au n).turn % 4)).ep<=_:=hsu hs (by show(((m.more n).au n).bs _).GR=1;rw[hA.GR];exact hr);rw[hA.ep]at h5;exact av h5 hd
  exact⟨_,hm _ (aL _ (by rw[aj ⟨by rw[hA.GR];exact hr,by rw[hA.ep];exact he,hns⟩];exact aI.2 E)),E,E,E,E,by show _-1=_;rw[hA.ep],E⟩
 rw[ah c]at hp';exact av hp' c
end
structure Dk (d:UE):Prop where
 pl:∀q,q<2->0<=(d.at q).node/\(d.at q).node<=4/\1<=(d.at q).Pf/\(d.at q).Pf<=1048576
 two:d.at 2=nowhere
 tre:d.at 3=nowhere
def MH(p p':Pl):Prop:=p'=p\/p.Pf<p'.Pf
section
variable {m w m':Cl}{n q B:Nat}{l x:bY}{p:cZ}{G G':Nat->Gh}{g g':Gh}{rs us:List dN}{F:Wy}{b b':bF}{d d':UE}{fl VG:List bY}
def MH.trans{a b c:Pl}(h:MH a b)(I:MH b c):MH a c:=by
 rcases h with h|h
 ·subst h;exact I
 rcases I with I|I
 ·subst I;exact .inr h
 exact .inr (Ho h I)
def MH.ep{a b:Pl}(h:MH a b):a.Pf<=b.Pf:=by
 rcases h with h|h
 ·subst h;exact gI _
 exact He h
def Dk.ok(h:Dk d):iD d=0:=zo λk J=>by
 have I:k=0\/k=1\/k=2\/k=3:=by omega
 rcases I with rfl|rfl|rfl|rfl
 ·exact .inr (h.pl 0 (by decide))
 ·exact .inr (h.pl 1 (by decide))
 ·rw[h.two];exact .inl ⟨E,E⟩
 rw[h.tre];exact .inl ⟨E,E⟩
def Dk.whr(h:Dk d)(I:q<2):aN d q=(d.at q,0):=by
 have h1:=h.pl q I;have e:(q:Int).toNat=q:=dW q;have:=Ee (d:=d) (q:=(q:Int)) h.ok (by omega) (λc=>by rw[e]at c;rw[c]at h1;exact av h1.1 (by decide));rw[e]at this;exact this
def adT(h:Dk d)(I:l.q<2):Dk (dY d l)/\(∀q,q<2->MH (d.at q) ((dY d l).at q))/\(0<=l.nd->l.nd<=4->(d.at l.q).Pf=l.ep->(d.at l.q).node≠l.nd->l.ep≠1048576->(d.at l.q).Pf< ((dY d l).at l.q).Pf):=by
 unfold dY;by_cases c:0<=l.nd/\(za d l.q l.ep l.nd).2=0
 ·rw[aj c];obtain⟨c0,c1⟩:=c;obtain⟨O,Z,f3,J,f5⟩:=Mr c1;have hne:l.ep≠1048576:=λe=>by
   unfold za at c1;rw[ah (λk=>k O),ah (by omega),ah (λk=>k J)]at c1
   split at c1
   ·exact av c1 (by decide)
   first|exact av c1 (by decide)|(rw[aj e]at c1;exact av c1 (by decide))
  rw[h.whr I]at J;have h1:=h.pl _ I;rw[f5];dsimp only;rw[dW];dsimp only at J;refine⟨⟨λk M=>?_,?_,?_⟩,λk M=>?_,λ_ _ _ _ _=>?_⟩
  ·rw[qg (by omega) (by omega)]
   split
   ·exact⟨Z,f3,by show 1<=l.ep+1;omega,by show l.ep+1<=_;omega⟩
   exact h.pl k M
  ·rw[qg (by omega) (by decide),ah (by omega)];exact h.two
  ·rw[qg (by omega) (by decide),ah (by omega)];exact h.tre
  ·rw[qg (by omega) (by omega)]
   split
   ·rename_i e
    subst e;exact .inr (by show _<l.ep+1;omega)
   exact .inl E
  rw[qg (by omega) (by omega),aj E]
  show _<l.ep+1
  omega
 rw[ah c];refine⟨h,λ_ _=>.inl E,λa1 a2 a3 a4 a5=>av ⟨a1,?_⟩ c⟩;unfold za;rw[h.whr I];dsimp only;rw[ah (λk=>k E),ah (by omega),ah (λk=>k a3),ah a4,ah a5]
def adU(h:Dk w.off)(O:l.q<2):Dk (w.QG l).off/\(∀q,q<2->MH (w.off.at q) ((w.QG l).off.at q))/\(∀x∈w.PI,x∈(w.QG l).PI)/\(∀j,∀x∈(w.au j).Pq,x∈((w.QG l).au j).Pq):=by
 obtain⟨I,J,_⟩:=adT h O;unfold Cl.QG
 split
 ·exact⟨h,λ_ _=>.inl E,λ_ h=>h,λ_ _ h=>h⟩
 split
 ·split
  ·exact⟨I,J,λ_ h=>bO _ h,λ_ _ h=>h⟩
  exact⟨I,J,λ_ h=>h,λ_ _ h=>h⟩
 split
 ·refine⟨h,λ_ _=>.inl E,λ_ h=>h,λj x M=>?_⟩;by_cases e:j=l.tg.toNat
  ·subst e;rw[bL];exact bO _ M
  rw[show ∀X,(w.put l.tg.toNat X).au j=w.au j from λX=>Ph e];exact M
 exact⟨h,λ_ _=>.inl E,λ_ h=>h,λ_ _ h=>h⟩
def XH:∀(ls:List bY) {w:Cl},Dk w.off->(∀l∈ls,l.q<2)->Dk (ls.foldl Cl.QG w).off/\(∀q,q<2->MH (w.off.at q) ((ls.foldl Cl.QG w).off.at q))/\(∀x∈w.PI,x∈(ls.foldl Cl.QG w).PI)/\(∀j,∀x∈(w.au j).Pq,x∈((ls.foldl Cl.QG w).au j).Pq)
 |[],w,h,_=>⟨h,λ_ _=>.inl E,λ_ h=>h,λ_ _ h=>h⟩
 |l::ls,w,h,J=>by
  obtain⟨a1,a2,a3,a4⟩:=adU h (J l iT);obtain⟨b1,b2,b3,b4⟩:=XH ls a1 λx I=>J x (dZ _ I);rw[wJ];exact⟨b1,λq M=>(a2 q M).trans (b2 q M),λx I=>b3 x (a3 x I),λj x I=>b4 j x (a4 j x I)⟩
structure Arr (d:UE)(x:bY)(m':Cl):Prop where
 jO:0<=x.tg->x∈(m'.au x.tg.toNat).Pq
 ask:x.tg= -2-> ∃y∈m'.PI,y.kd=6/\y.tg=x.fr/\y.q=x.q/\(d.at x.q).Pf<=y.ep
 flp:x.tg= -2->0<=x.nd->x.nd<=4->(d.at x.q).Pf=x.ep->(d.at x.q).node≠x.nd->x.ep≠1048576->(d.at x.q).Pf< (m'.off.at x.q).Pf
def Tj:∀(ls:List bY) {w:Cl},Dk w.off->(∀q,q<2->MH (d.at q) (w.off.at q))->(∀l∈ls,l.q<2)->(∀l∈ls,0<=l.tg->l.tg.toNat<5)->(∀j,j<5->(w.au j).up=true)-> ∀x∈ls,Arr d x (ls.foldl Cl.QG w)
 |[],_,_,_,_,_,_,x,J=>by cases J
 |l::ls,w,h,hd,Z,ht,hu,x,J=>by
  obtain⟨a1,a2,a3,a4⟩:=adU h (Z l iT);have I:=Z l iT;have hu':∀j,j<5->((w.QG l).au j).up=true:=λj hj=>by
   obtain⟨ib,e⟩:=Eb w l j;rw[e];exact hu j hj
  rw[wJ]
  rcases iR.1 J with J|J
  ·subst J;obtain⟨b1,b2,b3,b4⟩:=XH ls a1 λy M=>Z y (dZ _ M);obtain⟨f1,f2,f3⟩:=adT h I;refine⟨λh0=>b4 _ _ ?_,λh2=>?_,λh2 n1 n2 n3 n4 n5=>?_⟩
   ·unfold Cl.QG;rw[ah (by omega),ah (by omega),aj (hu _ (ht x iT h0)),bL];exact aL _ (aI.2 E)
   ·have hw:=f1.whr I;refine⟨ng x.fr x.q ((dY w.off x).at x.q),b3 _ ?_,E,E,E,((hd _ I).trans (f2 _ I)).ep⟩;unfold Cl.QG;rw[ah (by omega),aj h2,hw];rw[aj E];exact aL _ (aI.2 E)
   have O:(w.QG x).off=dY w.off x:=by
    unfold Cl.QG;rw[ah (by omega),aj h2]
    split<;>rfl
   have hb:=(b2 _ I).ep;rw[O]at hb
   rcases hd _ I with e|e
   ·rw[<-e]at n3 n4⊢;have:=f3 n1 n2 n3 n4 n5;omega
   have:=(f2 _ I).ep;omega
  exact Tj ls a1 (λq hq=>(hd q hq).trans (a2 q hq)) (λy M=>Z y (dZ _ M)) (λy M=>ht y (dZ _ M)) hu' x J
def apB{T S fP K:Nat}(hv:Vd m)(I:eF m T S fP K)(J:∀j,j<5->(m.au j).up=true)(h:Dk m.off):∀x∈m.PI,Arr m.off x m.all:=
 Tj m.PI (w:={m with PI:=[]}) h (λ_ _=>.inl E) hv.PI (λl M O=>by obtain⟨_,_,h1,_⟩:=I.nT l M;omega) J
def aBt(R:Rm m G B)(h:Su m):Dk m.off:=by
 refine⟨λq J=>?_,h.two,h.tre⟩;have I:=R.qi q J;obtain⟨d,M,O,Z⟩:=I.dir;have h1:=I.Z5 d O (by omega);have h2:=I.aax;have h3:=R.cap q J;rw[M];dsimp only;omega
structure QN (m m':Cl)(F:Nat->Wy)(n:Nat):Prop where
 bs:∀q,Sm ((m'.au n).bs q) ((m.au n).bs q)
 Jw:(m'.au n).turn=(m.au n).turn+1
 rep:∀l∈(m.au n).Pq,XE (F l.q) ((m.au n).bs l.q) n l m'.PI
 dut:(m.au n).turn % 4<2->Dut ((m.au n).bs ((m.au n).turn % 4)) (m.off.at ((m.au n).turn % 4)).Pf n ((m.au n).turn % 4) m'.PI
def XI(m:Cl)(f:bY->Nat):Nat->Nat
 | 0=>0
 |i+1=>XI m f i+eG f (m.au i).Pq
def O8(R:Rm m G B)(hB:B+46<=100000)(hb:Bn m)(hS:Su m)(hQ:Qt m m.o8):∀i,i<=5-> ∃G',Rm (m.dI i) G' B/\(∀q,q<2->FF (m.dI i) G' q=FF m G q)/\Su (m.dI i)/\(m.dI i).off=m.off/\(∀x∈m.PI,x∈(m.dI i).PI)/\((m.dI i).ws cu+XI m cu i<=m.ws cu/\(m.dI i).ws (gG (FF m G))+XI m (gG (FF m G)) i<=m.ws (gG (FF m G)))/\ ∀n,n<i->QN m (m.dI i) (FF m G) n
 | 0,_=>⟨G,R,λ_ _=>E,hS,E,λ_ h=>h,⟨aB,aB⟩,λn hn=>by omega⟩
 |i+1,hi=>by
  obtain⟨G1,Z,F1,S1,O1,L1,⟨C1,D1⟩,N1⟩:=O8 R hB hb hS hQ i (by omega);obtain⟨T,S,fP,K,I⟩:=sW hb i (by omega);obtain⟨G2,R2,W2,Sz,Pz,Z2⟩:=adN Z hB I (n:=i) (by omega);have e1:(m.dI i).au i=m.au i:=N8 hb i (by omega) i aB;have hp:((m.dI i).au i).PL=none:=by rw[e1];exact hQ.nU i (by omega)
  have hp':(((m.dI i).step i).au i).PL=none:=by
   have h1:=hQ.asP i (by omega);obtain⟨ib,e⟩:=vN (m.dI 5) i;have h2:((m.dI 5).all.au i).PL=none:=h1;rw[e]at h2;have h3:((m.dI 5).au i).PL=none:=h2;rw[XC hb 5 aB (n:=i) (by omega)]at h3;exact h3
  have F2:∀q,q<2->FF ((m.dI i).step i) G2 q=FF (m.dI i) G1 q:=by
   rcases Z2 with⟨_,_,_,f⟩|⟨c,_⟩|⟨_,c,_⟩
   ·exact f
   ·exact av hp c
   exact av hp' c
  have S2:Su ((m.dI i).step i):=Uq (λq hq=>⟨_,Z.qi q hq⟩) Z.vd I (by omega) S1;have Q:=quiet_step Z hB I (by omega) S2 hp hp';have M:=Q.PI;refine⟨G2,R2,λq hq=>(F2 q hq).trans (F1 q hq),S2,(Oa I (by omega)).trans O1,λx hx=>M x (L1 x hx),?_,λn hn=>?_⟩
  ·have q1:=Q.eB;have q2:=Q.aay;rw[e1]at q1 q2;obtain⟨_,c2,_⟩:=oU R2.vd F1;obtain⟨_,c3,_⟩:=oU Z.vd F1;have c4:eG (gG (FF (m.dI i) G1)) (m.au i).Pq=eG (gG (FF m G)) (m.au i).Pq:=by
    have hw:∀l∈(m.au i).Pq,gG (FF (m.dI i) G1) l=gG (FF m G) l:=λl J=>by
     have O:=R.vd.jC i (by omega) l J;unfold gG;rw[F1 _ O]
    exact Nat.le_antisymm (wY λl J=>oq (hw l J)) (wY λl J=>oq (hw l J).symm)
   show((m.dI i).step i).ws cu+(XI m cu i+_)<=_/\((m.dI i).step i).ws (gG (FF m G))+(XI m (gG (FF m G)) i+_)<=_
   exact⟨by omega,by omega⟩
  show QN m ((m.dI i).step i) (FF m G) n
  by_cases e:n=i
  ·subst e;refine⟨λq=>by rw[<-e1];exact Q.bs q,by rw[<-e1];exact Q.Jw,λl J=>?_,λh4=>?_⟩
   ·rw[<-e1]at J⊢;have O:=Z.vd.jC n (by omega) l J;have:=Q.rep l J;rw[F1 _ O]at this;exact this
   rw[<-e1]at h4⊢;have:=Q.dut h4;rw[O1]at this;exact this
  have N:=N1 n (by omega);have e2:((m.dI i).step i).au n=(m.dI i).au n:=pI I (by omega) e;exact⟨λq=>by rw[e2];exact N.bs q,by rw[e2];exact N.Jw,λl J=>(N.rep l J).mono M,λh4=>(N.dut h4).mono M⟩
def XJ:∀(ls:List bY) {w:Cl},(∀x∈w.PI,x.kd=6)-> ∀x∈(ls.foldl Cl.QG w).PI,x.kd=6
 |[],_,h=>h
 |l::ls,w,h=>by
  rw[wJ];refine XJ ls λx I=>?_;unfold Cl.QG at I
  split at I
  ·exact h x I
  split at I
  ·split at I
   ·rcases bD.1 I with I|I
    ·exact h x I
    rw[aI]at I;subst I;rfl
   exact h x I
  split at I
  ·exact h x I
  exact h x I
structure Q1 (m m':Cl)(F:Nat->Wy)(fl:List bY):Prop where
 bs:∀n,n<5-> ∀q,Sm ((m'.au n).bs q) ((m.au n).bs q)
 Jw:∀n,n<5->(m'.au n).turn=(m.au n).turn+1
 rep:∀n,n<5-> ∀l∈(m.au n).Pq,XE (F l.q) ((m.au n).bs l.q) n l fl
 dut:∀n,n<5->(m.au n).turn % 4<2->Dut ((m.au n).bs ((m.au n).turn % 4)) (m.off.at ((m.au n).turn % 4)).Pf n ((m.au n).turn % 4) fl
 PI:∀x∈m.PI,x∈fl
 arr:∀x∈fl,Arr m.off x m'
 eB:m'.ws cu<=eG cu m.PI
 aay:m'.ws (gG F)<=eG (gG F) m.PI
 k6:∀x∈m'.PI,x.kd=6
def ZH:∀x∈m.o8.PI,x.kd=6:=XJ (m.dI 5).PI (w:={m.dI 5 with PI:=[]}) λx h=>by cases h
def Tk(R:Rm m G B)(hB:B+46<=100000)(hb:Bn m)(hS:Su m)(hQ:Qt m m.o8):∃fl G',Rm m.o8 G' B/\(∀q,q<2->FF m.o8 G' q=FF m G q)/\Bn m.o8/\Su m.o8/\Q1 m m.o8 (FF m G) fl:=by
 obtain⟨G1,O,F1,S1,O1,L1,⟨C1,D1⟩,Z⟩:=O8 R hB hb hS hQ 5 aB;have J:=sW hb 5 aB;obtain⟨T,S,fP,K,h⟩:=id J;obtain⟨R2,F2⟩:=SN O h;have M:∀f:bY->Nat,m.ws f=eG f m.PI+XI m f 5:=λf=>by
  unfold Cl.ws XI XI XI XI XI XI;omega
 have c1:=M cu;have c2:=M (gG (FF m G));have w1:(m.dI 5).all.ws cu<=(m.dI 5).ws cu:=FB JI h.nT;have w2:(m.dI 5).all.ws (gG (FF m G))<=(m.dI 5).ws (gG (FF m G)):=FB VI h.nT;have hnd:∀j,∃ib,m.o8.au j={ (m.dI 5).au j with Pq:=ib}:=λj=>vN (m.dI 5) j;have I:=apB O.vd h O.up (by rw[O1];exact aBt R hS);rw[O1]at I;refine⟨(m.dI 5).PI,G1,R2,λq hq=>(F2 q hq).trans (F1 q hq),J.asO,ZF S1 O.vd,⟨λn hn q=>?_,λn hn=>?_,λn hn=>(Z n hn).rep,λn hn=>(Z n hn).dut,L1,I,?_,?_,ZH⟩⟩
 ·obtain⟨ib,e⟩:=hnd n;rw[e];exact(Z n hn).bs q
 ·obtain⟨ib,e⟩:=hnd n;rw[e];exact(Z n hn).Jw
 ·show(m.dI 5).all.ws cu<=_;omega
 show(m.dI 5).all.ws (gG (FF m G))<=_;omega
end
noncomputable def Cl.rs(m:Cl):Nat->Cl
 | 0=>m
 |i+1=>(m.rs i).o8
section
variable {m w m':Cl}{n q k B:Nat}{l x:bY}{G G':Nat->Gh}{g g':Gh}{F:Wy}{b b':bF}{d:Int}{fl VG:List bY}
def Dut.sm(h:Dut b d n q fl)(s:Sm b b'):Dut b' d n q fl:=by
 refine⟨λa=>?_,λa=>h.ask (by rw[s.GR];exact a),λa c e=>?_⟩
 ·obtain⟨x,J,I⟩:=h.off (by rw[s.GR];exact a);unfold adQ at I;rw[s.tg,s.ep]at I;exact⟨x,J,I⟩
 obtain⟨x,J,I⟩:=h.flp (by rw[s.GR];exact a) (by rw[s.ep];exact c) (by rw[s.ep];exact e);unfold aiQ at I;rw[s.ep]at I;exact⟨x,J,I⟩
structure ag0 (m w:Cl)(G:Nat->Gh)(B i:Nat):Prop where
 rm:∃G',Rm w G' B/\ ∀q,q<2->FF w G' q=FF m G q
 bn:Bn w
 su:Su w
 off:∀q,q<2->w.off.at q=m.off.at q
 bs:∀n,n<5-> ∀q,Sm ((w.au n).bs q) ((m.au n).bs q)
 Jw:∀n,n<5->(w.au n).turn=(m.au n).turn+i
structure Wq (m w w':Cl)(F:Nat->Wy)(i:Nat)(fl:List bY):Prop where
 rep:∀n,n<5-> ∀l∈(w.au n).Pq,XE (F l.q) ((m.au n).bs l.q) n l fl
 dut:∀n,n<5-> ∀q,q<2->((m.au n).turn+i) % 4=q->Dut ((m.au n).bs q) (m.off.at q).Pf n q fl
 PI:∀x∈w.PI,x∈fl
 arr:∀x∈fl,Arr w.off x w'
 eB:w'.ws cu<=eG cu w.PI
 aay:w'.ws (gG F)<=eG (gG F) w.PI
 k6:∀x∈w'.PI,x.kd=6
def XK{F F':Nat->Wy}:∀ {a:List bY},(∀x∈a,x.q<2)->(∀q,q<2->F q=F' q)->eG (gG F) a=eG (gG F') a
 |[],_,_=>rfl
 |l::a,h,I=>by
  have e:gG F l=gG F' l:=by unfold gG;rw[I _ (h l iT)]
  rw[eG,eG,e,XK (λx J=>h x (dZ _ J)) I]
def aza{i:Nat}(h:ag0 m w G B i)(hB:B+46<=100000)(hQ:Qt w w.o8):ag0 m w.o8 G B (i+1)/\ ∃fl,Wq m w w.o8 (FF m G) i fl:=by
 obtain⟨G1,O,M⟩:=h.rm;obtain⟨fl,G2,R2,F2,b2,s2,I⟩:=Tk O hB h.bn h.su hQ;refine⟨⟨⟨G2,R2,λq J=>(F2 q J).trans (M q J)⟩,b2,s2,λq J=>(hQ.off q J).trans (h.off q J),λn hn q=>(I.bs n hn q).trans (h.bs n hn q),λn hn=>by rw[I.Jw n hn,h.Jw n hn];omega⟩,fl,λn hn l hl=>?_,λn hn q J ht=>?_,I.PI,I.arr,I.eB,?_,I.k6⟩
 ·have Z:=O.vd.jC n hn l hl;have:=(I.rep n hn l hl).sm (h.bs n hn l.q);rw[M _ Z]at this;exact this
 ·have e:(w.au n).turn % 4=q:=by rw[h.Jw n hn];exact ht
  have:=I.dut n hn (by omega);rw[e,h.off q J]at this;exact this.sm (h.bs n hn q)
 have e1:w.o8.ws (gG (FF m G))=w.o8.ws (gG (FF w G1)):=(oU R2.vd λq J=>(M q J).symm).2.1;rw[e1,<-XK O.vd.PI M];exact I.aay
def av1(R:Rm m G B)(h:Bn m)(I:Su m):ag0 m m G B 0:=⟨⟨G,R,λ_ _=>E⟩,h,I,λ_ _=>E,λ_ _ _=>.refl _,λ_ _=>E⟩
def win(R:Rm m G B)(h:B+46<=100000)(I:Bn m)(J:Su m)(hQ:∀i,i<k->Qt (m.rs i) (m.rs (i+1))):∀i,i<=k->ag0 m (m.rs i) G B i
 | 0,_=>av1 R I J
 |i+1,hi=>(aza (win R h I J hQ i (by omega)) h (hQ i (by omega))).1
def MI(R:Rm m G B)(h:B+46<=100000)(I:Bn m)(J:Su m)(hQ:∀i,i<k->Qt (m.rs i) (m.rs (i+1))){i:Nat}(hi:i<k):∃fl,Wq m (m.rs i) (m.rs (i+1)) (FF m G) i fl:=
 (aza (win R h I J hQ i (by omega)) h (hQ i hi)).2
def four(t q:Nat)(h:q<4):∃i,i<4/\(t+i) % 4=q:=by
 have:t % 4=0\/t % 4=1\/t % 4=2\/t % 4=3:=by omega
 exact⟨(q+4-t % 4) % 4,by omega,by omega⟩
def adV(R:Rm m G B)(h:B+46<=100000)(I:Bn m)(J:Su m)(hQ:∀i,i<7->Qt (m.rs i) (m.rs (i+1)))(hn:n<5)(Z:q<2)(hr:((m.au n).bs q).GR=3)(he:((m.au n).bs q).ep< (m.off.at q).Pf):False:=by
 obtain⟨i,i1,i2⟩:=four (m.au n).turn q (by omega);obtain⟨f1,W⟩:=MI R h I J hQ (i:=i) (by omega);obtain⟨f2,W'⟩:=MI R h I J hQ (i:=i+1) (by omega);obtain⟨f3,W''⟩:=MI R h I J hQ (i:=i+2) (by omega);have ho:=(win R h I J hQ i (by omega)).off q Z;obtain⟨y,y1,y2,y3,y4,y5⟩:=(W.arr _ ((W.dut n hn q Z i2).ask hr)).ask E;have M:((m.rs i).off.at q).Pf<=y.ep:=y5;have y3':y.tg=(n:Int):=y3;have O:y.q=q:=y4;rw[ho]at M;have h2:=(W'.arr y (W'.PI y y1)).jO (by omega);rw[show y.tg.toNat=n by omega]at h2;have h3:=W''.rep n hn y h2;rw[O]at h3;exact h3.lrn y2 hr (by omega)
def ak2(R:Rm m G B)(O:B+46<=100000)(Z:Bn m)(hS:Su m)(hQ:∀i,i<7->Qt (m.rs i) (m.rs (i+1)))(h:q<2)(hr:(vw m q (G q).o).GR=1)(he:(m.off.at q).Pf≠((G q).m:Int)):False:=by
 have I:=R.qi q h;have J:=I.o5;have hV:=jk (q:=q) (R.up _ J);have hae:=I.wz;rw[hV]at hr hae;obtain⟨d,d1,d2,d3⟩:=I.dir;have hd:(m.off.at q).Pf=d:=by rw[d1]
 have hnd:(m.off.at q).node=(((G q).own d:Nat):Int):=by rw[d1]
 have hml:=I.aax;have hcap:=R.cap q h;have aPr:=I.adj d d2 (by omega);obtain⟨i,i1,i2⟩:=four (m.au (G q).o).turn q (by omega);obtain⟨f1,W⟩:=MI R O Z hS hQ (i:=i) (by omega);have ho:=(win R O Z hS hQ i (by omega)).off q h;have ho':=(win R O Z hS hQ (i+1) (by omega)).off q h;obtain⟨x,x1,x2,x3,x4,x5,x6,x7⟩:=(W.dut _ J q h i2).flp hr (by omega) (by omega);have M:(G q).o=(G q).own (d+1):=by show(G q).own (G q).m=_;rw[show(G q).m=d+1 by omega]
 have:=(W.arr x x1).flp x4 (by omega) (by omega) (by rw[x5,ho];omega) (by rw[x5,ho,hnd,x7,M];omega) (by omega);rw[x5,ho,ho']at this;omega
def ak3(R:Rm m G B)(hB:B+46<=100000)(hb:Bn m)(hS:Su m)(hQ:∀i,i<7->Qt (m.rs i) (m.rs (i+1)))(hq:q<2)(hr:(vw m q (G q).o).GR≠1):False:=by
 have I:=R.qi q hq;have O:=I.o5;have hV:=jk (q:=q) (R.up _ O);obtain⟨hdm,ht1,ht2,ht3⟩:=I.Vp hr;obtain⟨t,ht⟩:∃t:Nat,(vw m q (G q).o).tg=t:=⟨(vw m q (G q).o).tg.toNat,by omega⟩;have t5:t<5:=by omega
 have hto:t≠(G q).o:=by omega
 have hF:(FF m G q).R=1:=ah hr;have hFM:(FF m G q).M=(G q).m:=rfl;have hFt:(FF m G q).tg=(vw m q (G q).o).tg:=rfl;have Fy:=I.Fy;have hae:=I.wz;have hev:=I.zk;have hVt:=jk (q:=q) (R.up _ t5);have h:=I.p8 t t5 hto;rw[hV]at hr Fy hae hev ht;rw[hVt]at h;by_cases h3:((m.au t).bs q).GR=3
 ·rcases h with⟨Z,_⟩|⟨k,_,k2,_,k4,_⟩|⟨_,Z,_⟩
  ·omega
  ·exact adV R hB hb hS hQ t5 hq h3 (by omega)
  omega
 obtain⟨i,i1,i2⟩:=four (m.au (G q).o).turn q (by omega);obtain⟨f1,W⟩:=MI R hB hb hS hQ (i:=i) (by omega);obtain⟨f2,W2⟩:=MI R hB hb hS hQ (i:=i+1) (by omega);obtain⟨f3,W3⟩:=MI R hB hb hS hQ (i:=i+2) (by omega);obtain⟨f4,W4⟩:=MI R hB hb hS hQ (i:=i+3) (by omega);obtain⟨x,x1,x2,x3,x4,x5,x6⟩:=(W.dut _ O q hq i2).off (by omega);have hx:=(W.arr x x1).jO (by omega);rw[show x.tg.toNat=t by omega]at hx;have J:=W2.rep t t5 x hx;rw[x5]at J;have hbt:((m.au t).bs q).GR=4/\((m.au t).bs q).ep=((G q).m:Int)+1/\((m.au t).bs q).fr=(G q).o/\((m.au t).bs q).JU.length<=(G q).G.length:=by
  rcases h with⟨Z,h6,h7⟩|⟨k,Z,_⟩|⟨k,Z,h6,h7,h8,h9,_,h10,_⟩
  ·exact av (J.new x2 (.inl Z) (by omega)) id
  ·omega
  by_cases c:k=(G q).m
  ·subst c;exact⟨Z,h6,h9,fG h10 (I.Z6 h7 h8)⟩
  exact av (J.new x2 (.inr Z) (by omega)) id
 obtain⟨b1,b2,b3,b4⟩:=hbt;obtain⟨y,y1,y2,y3,y4,y5,y6,y7⟩:=J.off x2 b1 (by omega) (by omega);have hy:=(W2.arr y y1).jO (by omega);rw[show y.tg.toNat=(G q).o by omega]at hy;have hy':=W3.rep _ O y hy;rw[y5,x5]at hy';rw[<-hev]at b4;obtain⟨hc,z,z1,z2,z3,z4,z5,z6,z7,z8,z9⟩:=hy'.hav y2 (by omega) (by omega) (by omega) (by omega);have hz:=(W3.arr z z1).jO (by omega);rw[show z.tg.toNat=t by omega]at hz;have hz':=W4.rep t t5 z hz;rw[z5,y5,x5]at hz';refine hz'.prt z2 hF (by rw[hFt,hV];omega) (by rw[hFM];omega) b1 (by omega) (by omega) (by omega) ?_;rw[y7]at hc z8 z9;rw[dW]at z8 z9;by_cases c:((m.au t).bs q).JU.length< ((m.au (G q).o).bs q).JU.length
 ·left
  rw[z8];intro e;have:=bM length e;rw[dV,dL,length_nil]at this;omega
 right
 rw[z9]
 rcases hc with hc|hc
 ·exact jU ⟨hc,by omega⟩
 omega
end
section
variable {m m0 w m':Cl}{n q k B z r:Nat}{l x:bY}{G G0 G':Nat->Gh}{g g':Gh}{F F':Nat->Wy}{d:Nat}{p:cZ}{b b':bF}{ac:Ac}{X:Nd}{rs us:List dN}
def aiR:∀(a b:Nat),m.rs (a+b)=(m.rs a).rs b
 |_,0=>rfl
 |a,b+1=>by show(m.rs (a+b)).o8=((m.rs a).rs b).o8;rw[aiR a b]
def Ut(k:Nat):m.rs (k+1)=m.o8.rs k:=by rw[qR,aiR 1 k];rfl
def Tm(R:Rm m G B)(O:B+46<=100000)(I:Bn m)(Z:Su m):Su m.o8:=by
 have J:∀i,i<=5->Su (m.dI i):=by
  intro i
  induction i with
  |zero=>intro _;exact Z
  |succ i ih=>
   intro hi;obtain⟨G1,h,_⟩:=MG R O I i (by omega);obtain⟨T,S,fP,K,M⟩:=sW I i (by omega);exact Uq (λq hq=>⟨_,h.qi q hq⟩) h.vd M (by omega) (ih (by omega))
 obtain⟨G1,h,_⟩:=MG R O I 5 aB;exact ZF (J 5 aB) h.vd
structure Vl (m w:Cl)(G G':Nat->Gh)(B:Nat):Prop where
 rm:Rm w G' B
 bn:Bn w
 su:Su w
 zz:ZZ w (FF w G')=0
 le:∀q,q<2->nI (FF m G q) (FF w G' q)
def Tn(J:B+46<=100000):∀(T:Nat) {w:Cl} {G':Nat->Gh},Vl m w G G' B-> ∃G2,Vl m (w.rs T) G G2 B
 | 0,_,_,h=>⟨_,h⟩
 |T+1,w,G',h=>by
  obtain⟨G2,I⟩:=Tn J T h;obtain⟨M,Z,b3,W3,_,_,Z3⟩:=Ti I.rm J I.bn;have hz:=I.zz;refine⟨M,Z,b3,Tm I.rm J I.bn I.su,?_,λq O=>(I.le q O).trans (W3 q O)⟩
  show ZZ (w.rs T).o8 (FF (w.rs T).o8 M)=0
  rcases Z3 with⟨_,z,_⟩|⟨z,_⟩|z<;>omega
def MJ{f:bY->Nat}(I:∀x:bY,x.kd=6->f x=0){a:List bY}(h:∀x∈a,x.kd=6):eG f a=0:=Zt λx J=>I x (h x J)
def apC{c:Nat}(R:Rm m G B)(hr:∀q,q<2->(vw m q (G q).o).GR=1)(hd:∀q,q<2->(m.off.at q).Pf=((G q).m:Int))(Z:∀q n,q<2->n<5->((m.au n).bs q).GR=3->((m.au n).bs q).ep< (m.off.at q).Pf->False)
  (St:ag0 m w G B c) (SL:w.ws cu=0) (asQ:w.ws (gG (FF m G))=0) (h:∀n,n<5->(w.au n).PL=none):∃G',Vl m w G G' B:=by
 obtain⟨G7,R7,F7⟩:=St.rm;have hq0:∀q,q<2->pE (FF m G q) (w.off.at q).Pf (vq w q)=0:=λq O=>by
  have I:=R.qi q O;have hR:(FF m G q).R=0:=aj (hr q O);have hM:(FF m G q).M=(G q).m:=rfl;have J:∀n,n<5->pJ (FF m G q) (vq w q) n=0:=λn hn=>by
   unfold pJ;rw[ah];rintro⟨c1,c2⟩;have e:vq w q n=(w.au n).bs q:=by unfold vq;exact jP (h n hn)
   rw[e,(St.bs n hn q).GR]at c2;have Qz:n≠(G q).o:=c1;have hdq:=hd q O
   rcases I.p8 n hn Qz with⟨h5,_⟩|⟨k,_,k2,_,k4,_⟩|⟨_,h5,_⟩
   ·rw[jk (R.up n hn)]at h5;omega
   ·rw[jk (R.up n hn)]at k2;exact Z q n O hn c2 (by omega)
   rw[jk (R.up n hn)]at h5;omega
  unfold pE ZE O6 o5;rw[ah (by omega),St.off q O,hM,aj (hd q O),J 0 (by decide),J 1 (by decide),J 2 (by decide),J 3 (by decide),J 4 (by decide)]
 refine⟨G7,R7,St.bn,St.su,?_,λq O=>by rw[F7 q O];exact .refl _⟩;rw[(oU R7.vd F7).2.2];have hp:(o5 λj=>tV (w.au j).PL)=0:=by
  unfold o5;dsimp only;rw[h 0 (by decide),h 1 (by decide),h 2 (by decide),h 3 (by decide),h 4 (by decide)];rfl
 unfold ZZ PP;rw[SL,asQ,hq0 0 (by decide),hq0 1 (by decide),hp]
def win_zero(hk:k=7)(R:Rm m G B)(J:B+46<=100000)(M:Bn m)(O:Su m)(hQ:∀i,i<k->Qt (m.rs i) (m.rs (i+1))):∃G',Vl m (m.rs k) G G' B:=by
 obtain⟨i,rfl⟩:∃i,k=i+1+1:=⟨k-2,by omega⟩;have I:∀j,j<7->Qt (m.rs j) (m.rs (j+1)):=λj hj=>hQ j (by omega);have hr:∀q,q<2->(vw m q (G q).o).GR=1:=λq Z=>MK λc=>ak3 R J M O I Z c;have hd:∀q,q<2->(m.off.at q).Pf=((G q).m:Int):=λq Z=>MK λc=>ak2 R J M O I Z (hr q Z) c;obtain⟨f5,W5⟩:=MI R J M O hQ (i:=i) (by omega);obtain⟨f6,W6⟩:=MI R J M O hQ (i:=i+1) (by omega);have SL:(m.rs (i+1+1)).ws cu=0:=by
  have h:=W6.eB;rw[MJ JI W5.k6]at h;omega
 have asQ:(m.rs (i+1+1)).ws (gG (FF m G))=0:=by
  have h:=W6.aay;rw[MJ VI W5.k6]at h;omega
 exact apC R hr hd (λq n Z hn h3 he=>adV R J M O I hn Z h3 he) (win R J M O hQ (i+1+1) aB) SL asQ (hQ (i+1) (by omega)).asP
def Vl.from(h:Vl m w G' G0 B)(J:∀q,q<2->nI (FF m0 G q) (FF m G' q)):Vl m0 w G G0 B:=⟨h.rm,h.bn,h.su,h.zz,λq I=>(J q I).trans (h.le q I)⟩
def azb(M:B+46<=100000):∀(T:Nat) {m0:Cl} {G0 G:Nat->Gh} {r z:Nat},Rm m0 G0 B->Bn m0->Su m0->(∀i,i<r->Qt (m0.rs i) (m0.rs (i+1)))->r<=7->Rm (m0.rs r) G B->(∀q,q<2->FF (m0.rs r) G q=FF m0 G0 q)->
  (m0.rs r).ws (gG (FF m0 G0))=0->ZZ (m0.rs r) (FF m0 G0)<=z->z+7<=T+r-> ∃G',Vl m0 ((m0.rs r).rs T) G0 G' B:=by
 intro T
 induction T with
 |zero=>
  intro m0 G0 G r z O b0 Z hQ hr R F hst hz hT;obtain⟨G7,h⟩:=win_zero (by omega) O M b0 Z hQ;exact⟨G7,h⟩
 |succ T ih=>
  intro m0 G0 G r z O b0 Z hQ hr R F hst hz hT;by_cases e:r=7
  ·obtain⟨G7,h⟩:=win_zero e O M b0 Z hQ;exact Tn M (T+1) h
  have St:=win O M b0 Z hQ r aB;obtain⟨J,R1,b1,W1',S1,P1,Z1⟩:=Ti R M St.bn;have s1:=Tm R M St.bn St.su;obtain⟨_,c2,c3⟩:=oU R.vd F;rw[Ut];have hW:∀q,q<2->nI (FF m0 G0 q) (FF (m0.rs r).o8 J q):=λq hq=>by rw[<-F q hq];exact W1' q hq
  have I:∀ {z':Nat},ZZ (m0.rs r).o8 (FF (m0.rs r).o8 J)<=z'->z'+7<=T-> ∃G',Vl m0 ((m0.rs r).o8.rs T) G0 G' B:=λ{z'} h1 h2=>by
   obtain⟨G',h⟩:=ih (m0:=(m0.rs r).o8) (G0:=J) (G:=J) (r:=0) (z:=z') R1 b1 s1 (λi hi=>by omega) (by omega) R1 (λ_ _=>E) (by show(m0.rs r).o8.ws _=0;omega) h1 (by omega);exact⟨G',h.from hW⟩
  rcases Z1 with⟨a1,a2,a3⟩|⟨a1,a2⟩|a1
  ·have F1:∀q,q<2->FF (m0.rs (r+1)) J q=FF m0 G0 q:=λq hq=>(a3 q hq).trans (F q hq);obtain⟨_,d2,d3⟩:=oU (m:=m0.rs (r+1)) R1.vd F1;obtain⟨G',h⟩:=ih (m0:=m0) (G0:=G0) (G:=J) (r:=r+1) (z:=z) O b0 Z (λi hi=>by
    by_cases e2:i=r
    ·subst e2;exact a1
    exact hQ i (by omega)) (by omega) R1 F1 (by
    have e5:(m0.rs (r+1)).ws (gG (FF (m0.rs (r+1)) J))<=(m0.rs r).ws (gG (FF (m0.rs r) G)):=S1;omega) (by
    have e5:ZZ (m0.rs (r+1)) (FF (m0.rs (r+1)) J)<=ZZ (m0.rs r) (FF (m0.rs r) G):=a2;omega) (by omega)
   exact⟨G',h⟩
  ·rcases a2 with⟨n,n5,a2⟩|a2
   ·have er:r=0:=by
     cases r with
     |zero=>rfl
     |succ r=>exact av ((hQ r (by omega)).asP n n5) a2
    exact I (z':=z-1) (by omega) (by omega)
   omega
  exact I (z':=z-7) (by omega) (by omega)
def aHQ(I:B+46<=100000):∀(T:Nat) {m:Cl} {G:Nat->Gh} {z:Nat},Rm m G B->Bn m->Su m->eG (gG (FF m G)) m.PI=0->ZZ m (FF m G)<=z->z+8<=T-> ∃G',Vl m (m.rs T) G G' B:=by
 intro T
 induction T with
 |zero=>intro m G z _ _ _ _ _ h;omega
 |succ T ih=>
  intro m G z R Z hS hf hz hT;by_cases c:m.ws (gG (FF m G))=0
  ·exact azb I (T+1) (m0:=m) (G0:=G) (G:=G) (r:=0) (z:=z) R Z hS (λi hi=>by omega) (by omega) R (λ_ _=>E) c hz (by omega)
  obtain⟨J,M,b1,W1',S1,P1,Z1⟩:=Ti R I Z;have s1:=Tm R I Z hS;have O:eG (gG (FF m.o8 J)) m.o8.PI=0:=MJ VI ZH;rw[Ut]
  rcases Z1 with⟨a1,a2,a3⟩|⟨a1,a2⟩|a1
  ·obtain⟨fl,G2,R2,F2,b2,s2,q2⟩:=Tk R I Z hS a1;have h0:=q2.aay;obtain⟨_,d2,d3⟩:=oU (m:=m.o8) M.vd a3;obtain⟨G',h⟩:=azb I T (m0:=m.o8) (G0:=J) (G:=J) (r:=0) (z:=z) M b1 s1 (λi hi=>by omega) (by omega) M (λ_ _=>E) (by show m.o8.ws _=0;omega) (by show ZZ m.o8 _<=z;omega) (by omega);exact⟨G',h.from W1'⟩
  ·obtain⟨G',h⟩:=ih (m:=m.o8) (G:=J) (z:=z-1) M b1 s1 O (by omega) (by omega);exact⟨G',h.from W1'⟩
  obtain⟨G',h⟩:=ih (m:=m.o8) (G:=J) (z:=z-1) M b1 s1 O (by omega) (by omega);exact⟨G',h.from W1'⟩
def azc(I:B+46<=100000){T:Nat}(R:Rm m G B)(J:Bn m)(M:Su m)(hT:ZZ m (FF m G)+9<=T):∃G',Vl m (m.rs T) G G' B:=by
 obtain⟨T,rfl⟩:∃k,T=k+1:=⟨T-1,by omega⟩;obtain⟨O,Z,b1,W1',S1,P1,Z1⟩:=Ti R I J;rw[Ut];obtain⟨G',h⟩:=aHQ I T (m:=m.o8) (G:=O) (z:=ZZ m (FF m G)) Z b1 (Tm R I J M) (MJ VI ZH) (by rcases Z1 with⟨_,z,_⟩|⟨z,_⟩|z<;>omega) (by omega);exact⟨G',h.from W1'⟩
def yo(V:Nat->bF)(g:Gh)(n:Nat):Nat:=if n≠g.o/\(V n).GR=3 then 1 else 0
def yq(V:Nat->bF)(g:Gh):Nat:=g.G.length+o5 (yo V g)+2*(if (V g.o).GR=1 then 0 else 1)
def Qf(I:QI m q g)(I':QI m' q g')(N:g.m<=g'.m)(hn:n<5)(Z:vw m' q=Qv (vw m q) n b')
  (h1:n=g.o->b'.ep=(vw m q n).ep/\(b'.GR=1\/b'.GR=2\/b'.GR=3)/\b'.JU.length<=(vw m q n).JU.length+d/\((vw m q n).GR=1->b'.GR=1))
  (h2:n≠g.o->b'.GR=0\/b'.GR=4\/(b'.GR=3/\b'.ep<g.m/\(vw m q n).GR=3)\/(b'.GR=1/\b'.ep=(g.m:Int)+1/\(vw m q g.o).GR≠1/\b'.JU.length=g.G.length+1)):yq (vw m' q) g'<=yq (vw m q) g+d:=by
 have o5':=I'.o5;have oo:=I.o5;have O:=I'.wz;have J:=I'.zk;have M:=I'.Fy;have hm:=N;have keep:g'.o≠n->g'.o=g.o:=λe=>by
  rw[Z,Ph e]at O M;exact I.top o5' M (by omega)
 by_cases c:n=g.o
 ·obtain⟨a1,a2,a3,a4⟩:=h1 c;subst c;have eV:vw m' q g.o=b':=by rw[Z,JR]
  have eo:g'.o=g.o:=by
   by_cases e:g'.o=g.o
   ·exact e
   exact keep e
  have hG:g'.G.length=b'.JU.length:=by rw[<-J,eo,eV]
  have hG0:g.G.length=(vw m q g.o).JU.length:=by rw[I.zk]
  have hy:o5 (yo (vw m' q) g')=o5 (yo (vw m q) g):=Cz λj _=>by
   unfold yo;rw[eo];by_cases e:j=g.o
   ·rw[e,ah (λc=>c.1 E),ah (λc=>c.1 E)]
   rw[Z,Ph e]
  unfold yq;rw[hy,eo,eV];by_cases c1:(vw m q g.o).GR=1
  ·rw[aj c1,aj (a4 c1)];omega
  rw[ah c1];split<;>omega
 have eVo:vw m' q g.o=vw m q g.o:=by rw[Z,Ph (λe=>c e.symm)]
 by_cases e:g'.o=n
 ·rw[e]at O J M;rw[Z,JR]at O J M
  rcases h2 c with h|h|⟨_,h,_⟩|⟨k1,k2,k3,k5⟩
  ·omega
  ·omega
  ·omega
  have hG:g'.G.length=g.G.length+1:=by rw[<-J,k5]
  have hy:o5 (yo (vw m' q) g')<=o5 (yo (vw m q) g)+1:=by
   refine VH oo (λj hj=>?_) ?_
   ·unfold yo;by_cases ej:j=n
    ·rw[ah (λc=>c.1 (ej.trans e.symm))];exact aC _
    rw[Z,Ph ej]
    split
    ·rename_i c3
     rw[aj ⟨hj,c3.2⟩];exact aB
    exact aC _
   unfold yo;split<;>omega
  have hR:(vw m' q g'.o).GR=1:=by rw[e,Z,JR];exact k1
  unfold yq;rw[aj hR,ah k3];omega
 have eo:=keep e;have hG:g'.G.length=g.G.length:=by rw[<-J,eo,eVo,I.zk]
 have hy:o5 (yo (vw m' q) g')<=o5 (yo (vw m q) g)+0:=by
  refine VH hn (λj hj=>?_) ?_
  ·unfold yo;rw[eo,Z,Ph hj];exact aB
  unfold yo;rw[eo,Z,JR]
  split
  ·rename_i c3
   rcases h2 c with h|h|⟨_,_,h⟩|⟨h,_⟩
   ·omega
   ·omega
   ·rw[aj ⟨c,h⟩];exact aB
   omega
  exact aC _
 unfold yq;rw[eo,eVo];omega
def ahv(I:QI m q g)(I':QI m' q g')(N:g.m<=g'.m)(hn:n<5)(M:vw m' q=Qv (vw m q) n b')(s:Sm b' (vw m q n)):yq (vw m' q) g'<=yq (vw m q) g:=by
 refine Qf (d:=0) I I' N hn M (λe=>?_) λe=>?_
 ·have:=I.Fy;rw[<-e,<-s.GR]at this;exact⟨s.ep,this,by rw[s.JU];exact aB,λh=>by rw[s.GR];exact h⟩
 rcases I.p8 n hn e with⟨O,_⟩|⟨k,J,Z,k3,k4,_⟩|⟨k,J,_⟩
 ·exact .inl (by rw[s.GR];exact O)
 ·exact .inr (.inr (.inl ⟨by rw[s.GR];exact J,by rw[s.ep];omega,J⟩))
 exact .inr (.inl (by rw[s.GR];exact J))
def apD(I:QI m q g)(I':QI m' q g')(N:g.m<=g'.m)(hn:n<5)(hu:(m.au n).up=true)(hp:(m.au n).PL=some p)(hq:p.q=q)(hV:vw m' q=Qv (vw m q) n b')(J:b'=p.b (m.au n).bs\/b'=kM (p.b (m.au n).bs)):yq (vw m' q) g'<=yq (vw m q) g+ES (some p):=by
 have O:=jk (q:=q) hu;have hpv:Cy m q n=some p:=by unfold Cy;rw[hp];exact Qc hq
 obtain⟨_,hk⟩:=I.nU n hn p hpv
 cases p with
 |serve k JU op num a=>
  have e:k=q:=hq;subst e;obtain⟨k1,k2,k3,_⟩:=hk;have hd:ES (some (cZ.serve k JU op num a))=1:=rfl;rw[hd];have hbe:b'.ep=((m.au n).bs k).ep/\(b'.GR=1\/b'.GR=2\/b'.GR=3)/\b'.JU=JU/\(((m.au n).bs k).GR=1->b'.GR=1):=by
   rw[O]at k2;unfold QK at k2
   rcases J with J|J
   ·rw[J];exact⟨E,by show((m.au n).bs k).GR=1\/((m.au n).bs k).GR=2\/((m.au n).bs k).GR=3;omega,E,λh=>h⟩
   rw[J];unfold kM
   split
   ·exact⟨E,.inl E,E,λ_=>E⟩
   rename_i c
   exact⟨E,by show((m.au n).bs k).GR=1\/((m.au n).bs k).GR=2\/((m.au n).bs k).GR=3;omega,E,λh=>h⟩
  obtain⟨e1,e2,e3,e4⟩:=hbe;refine Qf I I' N hn hV (λe=>⟨by rw[O];exact e1,e2,?_,by rw[O];exact e4⟩) λe=>av k1 e;rw[e3,k3,e,I.zk,aY,lZ];exact aB
 |QL k x=>
  obtain⟨j,j1,Z,j3,j4,j5⟩:=hk;have Qz:=I.sF j4;have M:b'=x:=by
   rcases J with J|J
   ·exact J
   rw[J];show kM x=x;exact tK (by rw[j1];show(4:Int)≠2;decide)
  exact Qf I I' N hn hV (λh=>av h Qz) λ_=>.inr (.inl (by rw[M,j1]))
 |UK k x last=>
  obtain⟨k1,k2,k3⟩:=hk;have Qz:n≠g.o:=I.sF (.inr k1);refine Qf I I' N hn hV (λh=>av h Qz) λ_=>?_
  cases last with
  |true=>
   obtain⟨a1,a2,a3,a4,a5⟩:=k3 E;have M:b'=x:=by
    rcases J with J|J
    ·exact J
    rw[J];show kM x=x;exact tK (by rw[a4];show(1:Int)≠2;decide)
   refine .inr (.inr (.inr ⟨by rw[M,a4],by rw[M,a4],by omega,?_⟩));rw[M,a4];show(g.G++[bC]).length=_;simp
  |false=>
   obtain⟨j,a1,_⟩:=k2 E;have hr:x.GR=4:=by rw[a1];exact k1
   have M:b'=x:=by
    rcases J with J|J
    ·exact J
    rw[J];show kM x=x;exact tK (by omega)
   exact .inr (.inl (by rw[M];exact hr))
 |gJ k x a=>
  obtain⟨ho,j1,Z⟩:=hk;have M:b'=x:=by
   rcases J with J|J
   ·exact J
   rw[J];show kM x=x;exact tK (by rw[Z];show(3:Int)≠2;decide)
  refine Qf I I' N hn hV (λ_=>?_) λh=>av ho h;rw[M,Z];exact⟨E,.inr (.inr E),nM _ _,λh=>by omega⟩
 |QE k x=>
  obtain⟨j1,Z,j3⟩:=hk;have M:b'=x:=by
   rcases J with J|J
   ·exact J
   rw[J];show kM x=x;exact tK (by rw[Z];show(0:Int)≠2;decide)
  exact Qf I I' N hn hV (λh=>by have:=I.wz;rw[<-h]at this;omega) λ_=>.inl (by rw[M,Z])
end
end Go.Proofs.YtceeleolddkibaaGreatDoor
