import Derived.Test.YtlfgjcahpppbbaaGreatDoorG831cd
set_option maxRecDepth 100000
set_option maxHeartbeats 8000000
set_option linter.unusedSimpArgs false
set_option linter.unusedVariables false
namespace Go.Proofs.YtlfgjcahpppbbaaGreatDoor
open ChangeShapes WideShapes RowKit
section
variable {m:Cl} {q:Nat} {g:Gh} {G:Nat->Gh} {B:Nat}
theorem QI.lw (I:QI m q g): ∃ k,LW m q g k:=by
 refine ⟨g.G.length+((m.ah 0).data.length+((m.ah 1).data.length+((m.ah 2).data.length+((m.ah 3).data.length+(m.ah 4).data.length)))),I,by omega,λn hn=>?_⟩
 rcases five hn with rfl | rfl | rfl | rfl | rfl<;>omega
theorem QI.auth (I:QI m q g):wm m q g.o:=by obtain ⟨k,h⟩:=I.lw;exact h.auth
def Bq (m:Cl) (k:Nat):Prop:=dM m (3*k) (2*(k*k)+8010*k) (2*(k*k)+8010*k) k
theorem afF: ∀ (l:List Ac) {m:Cl} {k:Nat},Bq m k->(∀ a∈l,zF a)->Bq (m.run l) (k+l.length)
 | [],m,k,h,_=>h
 | a::l,m,k,h,ha=>by
  have h1:Bq (m.act a) (k+1):=by
   have:=TS h (ha a iQ);have e:(k+1)*(k+1)=k*k+2*k+1:=by rw [Nat.add_mul,Nat.mul_add];omega
   unfold Bq;rw [e];exact this.mono oQ oQ oQ oQ
  have:=afF l h1 (λx hx=>ha x (by simp [hx]));rw [List.length_cons,show k+(l.length+1)=k+1+l.length by omega];exact this
theorem aEl:Bq mD 0:=dM.mono ao4 oQ oQ oQ oQ
theorem aav {l:List Ac} (h: ∀ a∈l,bY a=0) (hl:l.length<=16000):(mD.run l).aQ.length<=1000000000:=by
 have h1:=(afF l aEl λa ha=>RI (h a ha)).aQ;have h2:l.length*l.length<=16000*16000:=Nat.mul_le_mul hl hl;rw [Nat.zero_add] at h1;omega
theorem Rm.state (R:Rm m G B) {q:Nat} (hq:q<2):wm m q (G q).o/\rp bS (vI q m.aQ)=some (av (G q).G).1/\((m.ah (G q).o).view q).evs=(G q).G/\good (G q).G/\(G q).G.length<=300:=by
 have I:=R.qi q hq;obtain ⟨_,_,h3⟩:=I.MS (R.up _ I.o5);exact ⟨I.auth,h3,I.Ga,I.gd,by have:=R.cap q hq;omega⟩
end
section
variable {gs:List Gr} {s:List Ac}
theorem Xy (gs:List Gr) {m:Nat} (hm:m<=120) (cr:Bool):wu (cK gs m cr)<=2640:=by
 have h1:=V6 (cK gs m cr);have h2:=CO gs m cr;omega
theorem CV (hs:s=cK gs 120 true): ∀ a∈kE s (wu s),bY a=0:=by subst hs;exact adk gs 120 true _
theorem JD (hs:s=cK gs 120 true):(kE s (wu s)).length<=16000:=by
 subst hs;have:=alR gs 120 true (wu (cK gs 120 true));have:=Xy gs (m:=120) dQ true;omega
theorem Um (hs:s=cK gs 120 true): ∀ q,q<2-> ∃ o Y an,wm (mD.run (kE s (wu s))) q o/\rp bS (vI q (mD.run (kE s (wu s))).aQ)=some Y/\av (((mD.run (kE s (wu s))).ah o).view q).evs=(Y,an,0)/\(((mD.run (kE s (wu s))).ah o).view q).evs.length<=2000:=by
 subst hs;intro q hq;obtain ⟨G,k,R,_⟩:=adL (gs:=gs) (m:=120) (r:=wu (cK gs 120 true)) (cr:=true) dQ (by have:=Xy gs (m:=120) dQ true;omega);obtain ⟨h1,h2,h3,h4,h5⟩:=R.state hq;refine ⟨(G q).o,(av (G q).G).1,(av (G q).G).2.1,h1,h2,?_,by rw [h3];omega⟩;rw [h3]
 show av (G q).G=((av (G q).G).1,(av (G q).G).2.1,0)
 rw [<-show (av (G q).G).2.2=0 from h4]
end
end Go.Proofs.YtlfgjcahpppbbaaGreatDoor
