import Derived.Test.YtceeleolddkibaaGreatDoorGf7083
set_option linter.all false
set_option maxRecDepth 100000
set_option maxHeartbeats 8000000
namespace Go.Proofs.YtceeleolddkibaaGreatDoor
open List Nat Go.Proofs.Tryz ChangeShapes WideShapes RowKit
def aT:Nat->Nat
 | 0=>0
 |t+1=>aT t+if t % 4<2 then 1 else 0
def Cl.aS(m:Cl):Nat:=o5 λn=>aT (m.au n).turn
def Cl.tS(m:Cl):Nat:=o5 λn=>(m.au n).turn
section
variable {m w m':Cl}{n q k:Nat}{l:bY}{b:bF}{ac:Ac}{X:Nd}
def aq6:∀t,2*aT t<=t+(if t % 4=1\/t % 4=3 then 1 else if t % 4=2 then 2 else 0)
 | 0=>aB
 |t+1=>by
  have I:=aq6 t;rw[aT];have J:t % 4=0\/t % 4=1\/t % 4=2\/t % 4=3:=by omega
  rcases J with h|h|h|h
  ·rw[h]at I⊢;rw[show(t+1) % 4=1 by omega];simp at I⊢;omega
  ·rw[h]at I⊢;rw[show(t+1) % 4=2 by omega];simp at I⊢;omega
  ·rw[h]at I⊢;rw[show(t+1) % 4=3 by omega];simp at I⊢;omega
  rw[h]at I⊢;rw[show(t+1) % 4=0 by omega];simp at I⊢;omega
def ag2(t:Nat):2*aT t<=t+2:=by
 have:=aq6 t
 split at this
 ·omega
 split at this<;>omega
def aBv:2*m.aS<=m.tS+10:=by
 have h:=ag2 (m.au 0).turn;have h1:=ag2 (m.au 1).turn;have I:=ag2 (m.au 2).turn;have J:=ag2 (m.au 3).turn;have M:=ag2 (m.au 4).turn;unfold Cl.aS Cl.tS o5;dsimp only;omega
def ak4(h:2<=(m.au n).turn % 4->((m.au n).bs ((m.au n).turn % 4)).GR=0):(m.lM n).nm n<=m.nm n+if (m.au n).turn % 4<2 then 1 else 0:=by
 by_cases c:(m.au n).turn % 4<2
 ·rw[aj c];exact adw
 rw[ah c];have I:=h (by omega);have e:iG n ((m.au n).turn % 4) ((m.au n).bs ((m.au n).turn % 4)) ((m.au n).QA ((m.au n).turn % 4))=[]:=by
  unfold iG;rw[ah (by omega),ah (by omega),ah (by omega)];rfl
 show qJ (m.PI++iG n ((m.au n).turn % 4) ((m.au n).bs ((m.au n).turn % 4)) ((m.au n).QA ((m.au n).turn % 4)))+uo ((Qv m.au n {m.au n with turn:=(m.au n).turn+1}) n)<=_
 rw[e,bI,JR];exact iJ _
def ak5{T S fP K:Nat}(hB:eF m T S fP K)(hv:Vd m)(hn:n<5):(m.step n).cw+m.aS<=m.cw+(m.step n).aS/\(m.step n).tS<=m.tS+1:=by
 have h:=λj (Z:j≠n)=>pI (m:=m) hB hn Z;have fin:∀ {d:Nat},(m.step n).nm n<=m.nm n+d->aT (m.au n).turn+d<=aT ((m.step n).au n).turn->((m.step n).au n).turn<=(m.au n).turn+1->(m.step n).cw+m.aS<=m.cw+(m.step n).aS/\(m.step n).tS<=m.tS+1:=λ{d} h1 J O=>by
  have c1:=aaj hn h h1;have c2:=ahu (f:=λj=>aT ((m.step n).au j).turn) (f':=λj=>aT (m.au j).turn) (a:=d) hn (λj Z=>by rw[h j Z]) J;have c3:=VH (f:=λj=>(m.au j).turn) (f':=λj=>((m.step n).au j).turn) (a:=1) hn (λj Z=>by rw[h j Z];exact aB) O;unfold Cl.aS Cl.tS;exact⟨by omega,c3⟩
 cases M:(m.au n).up with
 |false=>rw[oN M];exact⟨aB,l6 _⟩
 |true=>
  obtain⟨rs,us,hU⟩:=(hB.jO n hn).xV M
  cases hp:(m.au n).PL with
  |some p=>
   obtain⟨h1,J,O⟩:=hU.JD p hp;obtain⟨_,hf⟩:=jI hU.tape hU.nE J O;obtain⟨dX,y1,y2,y3,y4,y5,y6,y7,y8,_⟩:=CS E M hp O hf J;have eY:(m.step n).au n=dX:=by rw[y1,JR]
   refine fin (d:=0) ?_ (by rw[eY,y8];exact aB) (by rw[eY,y8];exact l6 _);unfold Cl.step;rw[ah (by rw[M];decide),hp];dsimp only;have h1:=SH (w:=m.put n {m.au n with Qr:=(m.au n).data.length,PL:=none}) (n:=n) (p:=p);rw[AZ]at h1;unfold Cl.nm uo at h1⊢;rw[hp];dsimp only at h1;have e0:Zq none=0:=rfl;rw[e0]at h1;omega
  |none=>
   have P:=qZ (n:=n) (λw=>Sv m n rs w/\w.nm n<=m.nm n/\ ∀q,Sm ((w.au n).bs q) ((m.au n).bs q)) (λw l r ⟨H,A,A2⟩ hp1 hin=>by
    obtain⟨h1,J,O,h4⟩:=q8 (λl hl=>nu (hB.jC n hn l hl)) H hp1 hin;have h5:=SG (w:=w.put n ((w.au n).box r)) (n:=n) (l:=l);rw[AZ]at h5;have h6:w.nm n=qJ w.PI+(JF l+qJ r+Zq (w.au n).PL):=by unfold Cl.nm uo;rw[hin];rfl
    have h7:uo ((w.au n).box r)=qJ r+Zq (w.au n).PL:=rfl;refine⟨h1.1,h4,by omega,λq=>(ZG O q).trans ?_⟩;rw[bL];exact A2 q) _ m E ⟨D8 M ⟨_,hU⟩,aB,λ_=>.refl _⟩
   obtain⟨H,A,A2⟩:=P;have I:=H.Jw;have es:=jX M hp;by_cases c:((m.more n).au n).PL=none
   ·rw[aj c]at es;have e1:(m.step n).au n={ (m.more n).au n with turn:=((m.more n).au n).turn+1}:=by
     rw[es]
     show Qv (m.more n).au n _ n=_
     exact JR _ _ _
    have hd:=ak4 (m:=m.more n) (n:=n) λJ=>by
     rw[(A2 _).GR];exact hv.view hn M J (by omega)
    refine fin (d:=if (m.au n).turn % 4<2 then 1 else 0) ?_ ?_ ?_
    ·rw[es,<-I];omega
    ·rw[e1]
     show _<=aT (((m.more n).au n).turn+1)
     rw[I];exact aB
    rw[e1]
    show((m.more n).au n).turn+1<=_
    rw[I];exact aB
   rw[ah c]at es;refine fin (d:=0) (by rw[es];exact A) (by rw[es,I];exact aB) (by rw[es,I];exact l6 _)
def ak6{at_:Nat}{c:Bool}:(w.pick at_ c false).cw<=w.cw:=by
 unfold Cl.pick
 split
 ·exact aB
 rename_i l h
 have I:=Zr (w:=w) (fl:=w.PI.eraseIdx (at_ % w.PI.length));have J:=Kt _ _ _ h;simp only[Bool.false_eq_true,if_false]
 split
 ·have:=Uh (w:={w with PI:=w.PI.eraseIdx (at_ % w.PI.length)}) (l:=l);omega
 omega
def ag3(h:∀j,(m'.au j).turn=(m.au j).turn):m'.aS=m.aS/\m'.tS=m.tS:=⟨Cz λj _=>by rw[h],Cz λj _=>by rw[h]⟩
def GH{bs:Nat->bF}:∀(h:List Nat) (w:Cl) (j:Nat),((Cl.UF n bs h w).au j).turn=(w.au j).turn
 |[],_,_=>rfl
 |q::r,w,j=>by
  rw[Cl.UF]
  split
  ·exact GH r w j
  rw[GH r]
  show(((w.recover n q).aF n q (gU (bs q)).1).au j).turn=_
  by_cases e:j=n
  ·subst e;rw[show((w.recover j q).aF j q (gU (bs q)).1).au j=((w.recover j q).au j).aF q (gU (bs q)).1 from bL _]
   show((w.recover j q).au j).turn=_
   rw[K6]
  rw[show((w.recover n q).aF n q (gU (bs q)).1).au j=(w.recover n q).au j from Ph e,K6]
def acW(a:Ac):Nat:=if a.kd=2\/a.kd=6 then 1 else 0
def acS(a:Ac):Nat:=if a.kd=3 then 1 else 0
def Ob(h:X.turn=(m.au n).turn)(j:Nat):((m.put n X).au j).turn=(m.au j).turn:=by
 by_cases e:j=n
 ·subst e;rw[bL];exact h
 rw[show(m.put n X).au j=m.au j from Ph e]
def apH{k:Nat}(M:Bs m k)(hv:Vd m)(O:Ko ac)(h1:ac.kd≠1):(m.UN ac).cw+m.aS<=m.cw+(m.UN ac).aS+acW ac/\(m.UN ac).tS<=m.tS+acS ac:=by
 obtain⟨a1,a2,a3,a4,a5,a6⟩:=O;have hn:ac.nd.toNat<5:=by omega
 have keep:∀ {m2:Cl} {c:Nat},m2.cw<=m.cw+c->(∀j,(m2.au j).turn=(m.au j).turn)->c<=acW ac->m2.cw+m.aS<=m.cw+m2.aS+acW ac/\m2.tS<=m.tS+acS ac:=λ{m2 c} h I Z=>by
  obtain⟨e1,e2⟩:=ag3 I;exact⟨by omega,by omega⟩
 unfold Cl.UN;rw[ah h1]
 split
 ·rename_i h2
  refine keep (c:=1) ?_ (λ_=>E) (by unfold acW;rw[aj (.inl h2)];exact aB)
  show qJ (m.PI++[ze ac.nd ac.qu.toNat ac.op m.calls])+(uo (m.au 0)+(uo (m.au 1)+(uo (m.au 2)+(uo (m.au 3)+uo (m.au 4)))))<=m.cw+1
  have Z:=Na (ze ac.nd ac.qu.toNat ac.op m.calls);rw[wX,Ic];unfold Cl.cw;omega
 split
 ·rename_i h3
  obtain⟨c1,c2⟩:=ak5 M hv hn;unfold acS;rw[aj h3];exact⟨by omega,c2⟩
 split
 ·have I:∀j,((m.pick ac.at_.toNat (decide (ac.kd≠5)) (decide (ac.kd=6))).au j).turn=(m.au j).turn:=λj=>by
   unfold Cl.pick
   split
   ·rfl
   dsimp only
   split
   ·rename_i l hl _
    obtain⟨ib,e⟩:=Eb (if decide (ac.kd=6)=true then m else{m with PI:=m.PI.eraseIdx (ac.at_.toNat % m.PI.length)}:Cl) l j;rw[e]
    split<;>rfl
   split<;>rfl
  by_cases J:ac.kd=6
  ·exact keep (c:=1) adx I (by unfold acW;rw[aj (.inr J)];exact aB)
  have e6:decide (ac.kd=6)=false:=jc J;rw[e6]at I⊢;exact keep (c:=0) ak6 I (aC _)
 split
 ·exact keep (c:=0) aiF (λj=>by obtain⟨ib,e⟩:=vN m j;rw[e]) (aC _)
 split
 ·unfold Cl.Vz
  split
  ·exact keep (c:=0) (Nb hn (aC _)) (Ob E) (aC _)
  exact keep (c:=0) aB (λ_=>E) (aC _)
 split
 ·unfold Cl.start
  split
  ·exact keep (c:=0) aB (λ_=>E) (aC _)
  split
  ·exact keep (c:=0) aB (λ_=>E) (aC _)
  refine keep (c:=0) (by rw[I7];exact Nb hn (aC _)) (λj=>?_) (aC _);rw[GH];refine Ob ?_ j;rfl
 unfold Cl.move
 split
 ·exact keep (c:=0) aB (λ_=>E) (aC _)
 split
 ·exact keep (c:=0) (by rw[Ui];exact aB) (Ob E) (aC _)
 exact keep (c:=0) aB (λ_=>E) (aC _)
end
end Go.Proofs.YtceeleolddkibaaGreatDoor
