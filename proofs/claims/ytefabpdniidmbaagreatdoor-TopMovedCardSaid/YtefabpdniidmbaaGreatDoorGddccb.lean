import Derived.Test.YtefabpdniidmbaaGreatDoorG7906b
set_option linter.all false
set_option maxRecDepth 100000
set_option maxHeartbeats 8000000
namespace Go.Proofs.YtefabpdniidmbaaGreatDoor
open List Nat Go.Proofs.Tryz ChangeShapes WideShapes RowKit
def aqu{L:List OJ}{m:Cl}{j q:Nat}{p:Nat×List BX}(h:P1 L m j p)(M:q<4):∃y,p.2[q]? =some y/\y.b=(m.aj j).view q:=by
 have I:=h.bm;have hv:(vB (m.aj j).view)[q]? =some ((m.aj j).view q):=by
  have J:q=0\/q=1\/q=2\/q=3:=Y
  rcases J with rfl|rfl|rfl|rfl<;>rfl
 rw[<-I,vX]at hv
 cases h1:p.2[q]? with
 |none=>rw[h1]at hv;cases hv
 |some y=>rw[h1]at hv;exact⟨y,E,AU hv⟩
section
variable {m w m':Cl}{n q k B:Nat}{l x:bO}{G G':Nat->Gh}{g g':Gh}
def agp{T S eZ K:Nat}(Z:dW m T S eZ K)(hn:n<5)(M:(m.aj n).up=true)(hp:(m.aj n).OO=none)(hc:∀l∈(m.aj n).Mv,l.kd≠0):(m.step n).bG=m.bG:=by
 obtain⟨rs,us,hU⟩:=(Z.jH n hn).uH M;obtain⟨H,A⟩:=og (n:=n) (λw=>Kt m n rs w/\w.bG=m.bG) (λw l r ⟨H,A⟩ J h=>by
  obtain⟨h1,h2,O,h4⟩:=oh (λl hl=>lM (Z.jk n hn l hl)) H J h;have hk:=hc l (H.jk l (by rw[h];exact gJ));refine⟨h1.1,h4,?_⟩;have I:(w.put n ((w.aj n).box r)).bG=m.bG:=A;generalize (w.put n ((w.aj n).box r)).PY n l=m2 at O⊢;generalize w.put n ((w.aj n).box r)=w2 at O I;clear h2 h4 h J A H
  cases O with
  |same=>exact I
  |done a c1 c2=>exact av c1 hk
  |TV c1=>exact I
  |part b c1 c2 c3 c4 c5 c6=>unfold Cl.part;split<;>exact I
  |OO p cO d c1 c2 c3 c4 c5=>exact I
  |Qf c1=>exact I) _ m E ⟨zx M ⟨_,hU⟩,E⟩
 rw[jy M hp]
 split<;>exact A
def aks:(w.P6 l).bG=w.bG:=by
 unfold Cl.P6
 split
 ·rfl
 split
 ·split<;>rfl
 split<;>rfl
def Sl:∀(ls:List bO) {w:Cl},(ls.foldl Cl.P6 w).bG=w.bG
 |[],_=>rfl
 |l::ls,w=>by rw[qX,Sl ls,aks]
def zG{f:bO->Nat}:∀ {a:List bO},eB f a=0-> ∀x∈a,f x=0
 |[],_,x,I=>by cases I
 |l::a,h,x,I=>by
  rw[eB]at h
  rcases iq.1 I with I|I
  ·subst I;omega
  exact zG Y x I
def akt(hB:B+46<=100000)(Z:UA m w G G' B):w.mo.bG=w.bG/\(∀q,q<2->w.mo.off.at q=w.off.at q)/\ ∀n,n<5-> ∀q,Sm (vw w.mo q n) (vw w q n):=by
 have hz:=Z.zz;obtain⟨G1,R1,b1,W,S1,P1,Z1⟩:=Ji Z.rm hB Z.bn;have hQ:Qt w w.mo:=by
  rcases Z1 with⟨h,_⟩|⟨h,_⟩|h
  ·exact h
  ·omega
  omega
 obtain⟨fl,G2,R2,F2,b2,s2,q1⟩:=JU Z.rm hB Z.bn Z.su hQ;have I:w.ws bV=0:=by unfold ZZ PP at hz;omega
 have M:∀n,n<5-> ∀l∈(w.aj n).Mv,l.kd≠0:=λn hn l hl hk=>by
  have h0:eB bV (w.aj n).Mv=0:=by
   unfold Cl.ws at I
   rcases five hn with rfl|rfl|rfl|rfl|rfl<;>omega
  have:=zG h0 l hl;rw[show bV l=1 from au hk]at this;omega
 have J:∀i,i<=5->(w.cu i).bG=w.bG:=by
  intro i
  induction i with
  |zero=>intro _;rfl
  |succ i ih=>
   intro hi;obtain⟨T,S,eZ,K,O⟩:=oW Z.bn i Y;have e1:(w.cu i).aj i=w.aj i:=Ic Z.bn i Y i aB
   show((w.cu i).step i).bG=_
   rw[agp O Y (by rw[e1];exact Z.rm.up i Y) (by rw[e1];exact hQ.nQ i Y) (by rw[e1];exact M i Y)];exact ih Y
 refine⟨?_,hQ.off,λn hn q=>?_⟩
 ·show((w.cu 5).OM.foldl Cl.P6 {w.cu 5 with OM:=[]}).bG=_
  rw[Sl];exact J 5 aB
 rw[iC (R2.up n hn),iC (Z.rm.up n hn)];exact q1.bs n hn q
def ads(h:B+46<=100000)(Z:UA m w G G' B):∀r,∃G2,UA m (w.rs r) G G2 B/\(w.rs r).bG=w.bG/\(∀q,q<2->(w.rs r).off.at q=w.off.at q)/\ ∀n,n<5-> ∀q,Sm (vw (w.rs r) q n) (vw w q n)
 | 0=>⟨G',Z,E,λ_ _=>E,λ_ _ _=>.refl _⟩
 |r+1=>by
  obtain⟨G2,I,a,b,c⟩:=ads h Z r;obtain⟨a1,b1,c1⟩:=akt h I;obtain⟨M,O⟩:=JV h 1 I;exact⟨M,O,a1.trans a,λq J=>(b1 q J).trans (b q J),λn hn q=>(c1 n hn q).trans (c n hn q)⟩
end
def aT:Nat->Nat
 | 0=>0
 |t+1=>aT t+if t % 4<2 then 1 else 0
def Cl.aS(m:Cl):Nat:=o5 λn=>aT (m.aj n).turn
def Cl.tS(m:Cl):Nat:=o5 λn=>(m.aj n).turn
section
variable {m w m':Cl}{n q k:Nat}{l:bO}{b:bC}{ac:Ac}{X:Nd}
def aqv:∀t,2*aT t<=t+(if t % 4=1\/t % 4=3 then 1 else if t % 4=2 then 2 else 0)
 | 0=>aB
 |t+1=>by
  have I:=aqv t;rw[aT];have J:t % 4=0\/t % 4=1\/t % 4=2\/t % 4=3:=by omega
  rcases J with h|h|h|h
  ·rw[h]at I⊢;rw[show(t+1) % 4=1 by omega];simp at I⊢;omega
  ·rw[h]at I⊢;rw[show(t+1) % 4=2 by omega];simp at I⊢;omega
  ·rw[h]at I⊢;rw[show(t+1) % 4=3 by omega];simp at I⊢;omega
  rw[h]at I⊢;rw[show(t+1) % 4=0 by omega];simp at I⊢;omega
def agq(t:Nat):2*aT t<=t+2:=by
 have:=aqv t
 split at this
 ·omega
 split at this<;>omega
def aBl:2*m.aS<=m.tS+10:=by
 have h:=agq (m.aj 0).turn;have h1:=agq (m.aj 1).turn;have I:=agq (m.aj 2).turn;have J:=agq (m.aj 3).turn;have M:=agq (m.aj 4).turn;unfold Cl.aS Cl.tS o5;dsimp only;omega
def aku(h:2<=(m.aj n).turn % 4->((m.aj n).bs ((m.aj n).turn % 4)).F9=0):(m.lu n).nm n<=m.nm n+if (m.aj n).turn % 4<2 then 1 else 0:=by
 by_cases c:(m.aj n).turn % 4<2
 ·rw[au c];exact acN
 rw[ah c];have I:=h Y;have e:ig n ((m.aj n).turn % 4) ((m.aj n).bs ((m.aj n).turn % 4)) ((m.aj n).PZ ((m.aj n).turn % 4))=[]:=by
  unfold ig;rw[ah Y,ah Y,ah Y];rfl
 show qL (m.OM++ig n ((m.aj n).turn % 4) ((m.aj n).bs ((m.aj n).turn % 4)) ((m.aj n).PZ ((m.aj n).turn % 4)))+tX ((PN m.aj n {m.aj n with turn:=(m.aj n).turn+1}) n)<=_
 rw[e,bI,Jo];exact iR _
def akv{T S eZ K:Nat}(hB:dW m T S eZ K)(hv:Vd m)(hn:n<5):(m.step n).cw+m.aS<=m.cw+(m.step n).aS/\(m.step n).tS<=m.tS+1:=by
 have h:=λj (Z:j≠n)=>nE (m:=m) hB hn Z;have fin:∀ {d:Nat},(m.step n).nm n<=m.nm n+d->aT (m.aj n).turn+d<=aT ((m.step n).aj n).turn->((m.step n).aj n).turn<=(m.aj n).turn+1->(m.step n).cw+m.aS<=m.cw+(m.step n).aS/\(m.step n).tS<=m.tS+1:=λ{d} h1 J O=>by
  have c1:=ZL hn h h1;have c2:=agV (f:=λj=>aT ((m.step n).aj j).turn) (f':=λj=>aT (m.aj j).turn) (a:=d) hn (λj Z=>by rw[h j Z]) J;have c3:=U8 (f:=λj=>(m.aj j).turn) (f':=λj=>((m.step n).aj j).turn) (a:=1) hn (λj Z=>by rw[h j Z];exact aB) O;unfold Cl.aS Cl.tS;exact⟨by omega,c3⟩
 cases M:(m.aj n).up with
 |false=>rw[oN M];exact⟨aB,mh _⟩
 |true=>
  obtain⟨rs,us,hU⟩:=(hB.jH n hn).uH M
  cases hp:(m.aj n).OO with
  |some p=>
   obtain⟨h1,J,O⟩:=hU.FI p hp;obtain⟨_,hf⟩:=jL hU.tape hU.mG J O;obtain⟨cO,y1,y2,y3,y4,y5,y6,y7,y8,_⟩:=Cr E M hp O hf J;have eY:(m.step n).aj n=cO:=by rw[y1,Jo]
   refine fin (d:=0) ?_ (by rw[eY,y8];exact aB) (by rw[eY,y8];exact mh _);unfold Cl.step;rw[ah (by rw[M];decide),hp];dsimp only;have h1:=RN (w:=m.put n {m.aj n with OY:=(m.aj n).data.length,OO:=none}) (n:=n) (p:=p);rw[Ao]at h1;unfold Cl.nm tX at h1⊢;rw[hp];dsimp only at h1;have e0:Y5 none=0:=rfl;rw[e0]at h1;omega
  |none=>
   have P:=og (n:=n) (λw=>Kt m n rs w/\w.nm n<=m.nm n/\ ∀q,Sm ((w.aj n).bs q) ((m.aj n).bs q)) (λw l r ⟨H,A,A2⟩ hp1 hin=>by
    obtain⟨h1,J,O,h4⟩:=oh (λl hl=>lM (hB.jk n hn l hl)) H hp1 hin;have h5:=RL (w:=w.put n ((w.aj n).box r)) (n:=n) (l:=l);rw[Ao]at h5;have h6:w.nm n=qL w.OM+(I5 l+qL r+Y5 (w.aj n).OO):=by unfold Cl.nm tX;rw[hin];rfl
    have h7:tX ((w.aj n).box r)=qL r+Y5 (w.aj n).OO:=rfl;refine⟨h1.1,h4,by omega,λq=>(Zi O q).trans ?_⟩;rw[aY];exact A2 q) _ m E ⟨zx M ⟨_,hU⟩,aB,λ_=>.refl _⟩
   obtain⟨H,A,A2⟩:=P;have I:=H.IW;have es:=jy M hp;by_cases c:((m.more n).aj n).OO=none
   ·rw[au c]at es;have e1:(m.step n).aj n={ (m.more n).aj n with turn:=((m.more n).aj n).turn+1}:=by
     rw[es]
     show PN (m.more n).aj n _ n=_
     exact Jo _ _ _
    have hd:=aku (m:=m.more n) (n:=n) λJ=>by
     rw[(A2 _).F9];exact hv.view hn M J Y
    refine fin (d:=if (m.aj n).turn % 4<2 then 1 else 0) ?_ ?_ ?_
    ·rw[es,<-I];omega
    ·rw[e1]
     show _<=aT (((m.more n).aj n).turn+1)
     rw[I];exact aB
    rw[e1]
    show((m.more n).aj n).turn+1<=_
    rw[I];exact aB
   rw[ah c]at es;refine fin (d:=0) (by rw[es];exact A) (by rw[es,I];exact aB) (by rw[es,I];exact mh _)
def akw{at_:Nat}{c:Bool}:(w.pick at_ c false).cw<=w.cw:=by
 unfold Cl.pick
 split
 ·exact aB
 rename_i l h
 have I:=Y6 (w:=w) (fl:=w.OM.eraseIdx (at_ % w.OM.length));have J:=JR _ _ _ h;simp only[Bool.false_eq_true,if_false]
 split
 ·have:=Tv (w:={w with OM:=w.OM.eraseIdx (at_ % w.OM.length)}) (l:=l);omega
 omega
def agr(h:∀j,(m'.aj j).turn=(m.aj j).turn):m'.aS=m.aS/\m'.tS=m.tS:=⟨Ce λj _=>by rw[h],Ce λj _=>by rw[h]⟩
def FW{bs:Nat->bC}:∀(h:List Nat) (w:Cl) (j:Nat),((Cl.TY n bs h w).aj j).turn=(w.aj j).turn
 |[],_,_=>rfl
 |q::r,w,j=>by
  rw[Cl.TY]
  split
  ·exact FW r w j
  rw[FW r]
  show(((w.recover n q).aC n q (gW (bs q)).1).aj j).turn=_
  by_cases e:j=n
  ·subst e;rw[show((w.recover j q).aC j q (gW (bs q)).1).aj j=((w.recover j q).aj j).aC q (gW (bs q)).1 from aY _]
   show((w.recover j q).aj j).turn=_
   rw[Ky]
  rw[show((w.recover n q).aC n q (gW (bs q)).1).aj j=(w.recover n q).aj j from Ox e,Ky]
def acW(a:Ac):Nat:=if a.kd=2\/a.kd=6 then 1 else 0
def acS(a:Ac):Nat:=if a.kd=3 then 1 else 0
def Nk(h:X.turn=(m.aj n).turn)(j:Nat):((m.put n X).aj j).turn=(m.aj j).turn:=by
 by_cases e:j=n
 ·subst e;rw[aY];exact h
 rw[show(m.put n X).aj j=m.aj j from Ox e]
def aoV{k:Nat}(M:Bs m k)(hv:Vd m)(O:Es ac)(h1:ac.kd≠1):(m.Ub ac).cw+m.aS<=m.cw+(m.Ub ac).aS+acW ac/\(m.Ub ac).tS<=m.tS+acS ac:=by
 obtain⟨a1,a2,a3,a4,a5,a6⟩:=O;have hn:ac.nd.toNat<5:=by omega
 have keep:∀ {m2:Cl} {c:Nat},m2.cw<=m.cw+c->(∀j,(m2.aj j).turn=(m.aj j).turn)->c<=acW ac->m2.cw+m.aS<=m.cw+m2.aS+acW ac/\m2.tS<=m.tS+acS ac:=λ{m2 c} h I Z=>by
  obtain⟨e1,e2⟩:=agr I;exact⟨by omega,by omega⟩
 unfold Cl.Ub;rw[ah h1]
 split
 ·rename_i h2
  refine keep (c:=1) ?_ (λ_=>E) (by unfold acW;rw[au (.inl h2)];exact aB)
  show qL (m.OM++[xB ac.nd ac.qu.toNat ac.op m.calls])+(tX (m.aj 0)+(tX (m.aj 1)+(tX (m.aj 2)+(tX (m.aj 3)+tX (m.aj 4)))))<=m.cw+1
  have Z:=Ms (xB ac.nd ac.qu.toNat ac.op m.calls);rw[wz,Gy];unfold Cl.cw;omega
 split
 ·rename_i h3
  obtain⟨c1,c2⟩:=akv M hv hn;unfold acS;rw[au h3];exact⟨by omega,c2⟩
 split
 ·have I:∀j,((m.pick ac.at_.toNat (decide (ac.kd≠5)) (decide (ac.kd=6))).aj j).turn=(m.aj j).turn:=λj=>by
   unfold Cl.pick
   split
   ·rfl
   dsimp only
   split
   ·rename_i l hl _
    obtain⟨ib,e⟩:=AY (if decide (ac.kd=6)=true then m else{m with OM:=m.OM.eraseIdx (ac.at_.toNat % m.OM.length)}:Cl) l j;rw[e]
    split<;>rfl
   split<;>rfl
  by_cases J:ac.kd=6
  ·exact keep (c:=1) acO I (by unfold acW;rw[au (.inr J)];exact aB)
  have e6:decide (ac.kd=6)=false:=jf J;rw[e6]at I⊢;exact keep (c:=0) akw I (aG _)
 split
 ·exact keep (c:=0) ah1 (λj=>by obtain⟨ib,e⟩:=rX m j;rw[e]) (aG _)
 split
 ·unfold Cl.UZ
  split
  ·exact keep (c:=0) (Mt hn (aG _)) (Nk E) (aG _)
  exact keep (c:=0) aB (λ_=>E) (aG _)
 split
 ·unfold Cl.start
  split
  ·exact keep (c:=0) aB (λ_=>E) (aG _)
  split
  ·exact keep (c:=0) aB (λ_=>E) (aG _)
  refine keep (c:=0) (by rw[Ia];exact Mt hn (aG _)) (λj=>?_) (aG _);rw[FW];refine Nk ?_ j;rfl
 unfold Cl.move
 split
 ·exact keep (c:=0) aB (λ_=>E) (aG _)
 split
 ·exact keep (c:=0) (by rw[Tw];exact aB) (Nk E) (aG _)
 exact keep (c:=0) aB (λ_=>E) (aG _)
end
end Go.Proofs.YtefabpdniidmbaaGreatDoor
