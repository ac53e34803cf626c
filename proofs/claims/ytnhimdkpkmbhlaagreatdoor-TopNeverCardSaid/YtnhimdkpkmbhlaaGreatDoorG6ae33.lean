import Derived.Test.YtnhimdkpkmbhlaaGreatDoorG6373b
import Derived.Test.YtnhimdkpkmbhlaaGreatDoorG97bd6
import Derived.Test.YtnhimdkpkmbhlaaGreatDoorGfd798
set_option maxRecDepth 100000
set_option maxHeartbeats 8000000
set_option linter.unusedSimpArgs false
set_option linter.unusedVariables false
namespace Go.Proofs.YtnhimdkpkmbhlaaGreatDoor
open ChangeShapes WideShapes RowKit
abbrev oX (x:OX):Array Value:= #[.int .i64 ((x.fl:Nat):Int),.bool (x.U 0),.bool (x.U 1),.bool (x.U 2),.bool (x.U 3),.bool (x.U 4),.int .i64 x.d.p0.node,.int .i64 x.d.p0.epoch,.int .i64 x.d.p1.node,.int .i64 x.d.p1.epoch,.int .i64 x.d.p2.node,.int .i64 x.d.p2.epoch,.int .i64 x.d.p3.node,.int .i64 x.d.p3.epoch,.slice x.BA 5 x.bc,.slice x.sA x.sn x.sc,.slice x.tA x.tn x.tc,.int .i64 ((x.calls:Nat):Int)]
section
variable {Q y:Qd} {e:Ev} {c:Int} {ak zW:List Int} {k:Nat} {x:Ls} {l:List dI} {a:dI}
def NvI (Q:Qd) (ak:List Int):Prop:= ∀ z∈ak,z<Q.nx/\z ∉ jE Q.ready Q.aF
def Vv (Q:Qd) (e:Ev) (c:Int) (ak zW:List Int):Prop:= ∀ z∈zW,z∈ak\/(e.kind=3/\c=0/\ ∃ x∈Q.aF,x.hno=e.hno/\z=x.msg.no)
theorem Vv.nil:Vv Q e c ak ak:=λ_ h=> .inl h
theorem Vv.more (h:Vv Q e c ak zW) (hk:e.kind=3) (hc:c=0) (hx:Q.aF[k]? =some x) (h1:x.hno=e.hno):Vv Q e c ak (zW++[x.msg.no]):=by
 intro z hz
 rcases List.mem_append.1 hz with hz | hz
 ·exact h z hz
 rw [List.mem_singleton] at hz;exact .inr ⟨hk,hc,x,List.mem_of_getElem? hx,h1,hz⟩
theorem Vv.old (h:Vv Q e c ak zW) (hk: ¬ (e.kind=3/\c=0)): ∀ z∈zW,z∈ak:=λz hz=>(h z hz).elim id λh=>absurd ⟨h.1,h.2.1⟩ hk
theorem anR {ep nx gv:Int}: ∀ {ls:List Ls} {p:Int},kR ep nx gv p ls=true-> ∀ x∈ls,x.msg.no<nx
 | [],_,_,x,hx=>by cases hx
 | m::r,p,h,x,hx=>by
  simp only [kR,JW,qI,Bool.and_eq_true,decide_eq_true_eq] at h
  rcases List.mem_cons.1 hx with rfl | hx
  ·omega
  exact anR h.2 x hx
theorem NvI.keep {Q':Qd} (h:NvI Q ak) (hA: ∀ z∈zW,z∈ak) (hn:Q.nx<=Q'.nx) (hm: ∀ z,z∈jE Q'.ready Q'.aF->z∈jE Q.ready Q.aF\/Q.nx<=z):NvI Q' zW:=by
 intro z hz;obtain ⟨h1,h2⟩:=h z (hA z hz);refine ⟨by omega,λh3=>?_⟩
 rcases hm z h3 with h4 | h4
 ·exact h2 h4
 omega
theorem BK {rs:List fD} {ls:List Ls} {z:Int}:z∈jE rs ls↔(∃ m∈rs,m.no=z)\/ ∃ x∈ls,x.msg.no=z:=by
 unfold jE;rw [List.mem_append,List.mem_map,List.mem_map]
theorem ZT (hN:NvI Q ak) (hf:Q.fault=0) (hA:Vv Q e (stepM Q e).2.1.code ak zW):NvI (stepM Q e).1 zW:=by
 obtain ⟨_,_,q3,q4,q5⟩:=Ey hf;have id0: ∀ z,z∈jE Q.ready Q.aF->z∈jE Q.ready Q.aF\/Q.nx<=z:=λ_ h=> .inl h;by_cases k1:e.kind=1
 ·have hA':=hA.old (by omega);rw [show stepM Q e=yt Q e.producer.toNat e.id e.body by unfold stepM;rw [if_pos k1]];unfold yt
  split; · exact hN.keep hA' (Int.le_refl _) id0
  split; · exact hN.keep hA' (Int.le_refl _) id0
  split; · exact hN.keep hA' (Int.le_refl _) id0
  refine hN.keep hA' (by dsimp only;omega) λz hz=>?_;dsimp only at hz;rw [BK] at hz⊢
  rcases hz with ⟨m,hm,h1⟩ | h1
  ·rcases List.mem_append.1 hm with hm | hm
   ·exact .inl (.inl ⟨m,hm,h1⟩)
   rw [List.mem_singleton] at hm;subst hm;exact .inr (by rw [<-h1];exact Int.le_refl _)
  exact .inl (.inr h1)
 by_cases k2:e.kind=2
 ·have hA':=hA.old (by omega);rw [show stepM Q e=pz Q by unfold stepM;rw [if_neg k1,if_pos k2]];obtain ⟨ep,nx,gv,rs,ls,W⟩:=Q
  cases rs with
  | nil=>exact hN.keep hA' (Int.le_refl _) id0
  | cons m r=>
   by_cases hg:gv=1073741824
   ·rw [show pz ⟨ep,nx,gv,m::r,ls,W⟩=(⟨ep,nx,gv,m::r,ls,W⟩,nN 14,false) by simp [pz,hg]];exact hN.keep hA' (Int.le_refl _) id0
   rw [show pz ⟨ep,nx,gv,m::r,ls,W⟩=(⟨ep,nx,gv+1,r,ls++[⟨ep,gv,m⟩],W⟩,⟨0,ep,gv,m.body⟩,true) by simp [pz,hg]];refine hN.keep hA' (Int.le_refl _) λz hz=> .inl ?_;dsimp only at hz⊢;rw [BK] at hz⊢
   rcases hz with ⟨u,hu,h1⟩ | ⟨u,hu,h1⟩
   ·exact .inl ⟨u,List.mem_cons_of_mem _ hu,h1⟩
   rcases List.mem_append.1 hu with hu | hu
   ·exact .inr ⟨u,hu,h1⟩
   rw [List.mem_singleton] at hu;subst hu;exact .inl ⟨m,List.mem_cons_self,h1⟩
 by_cases k3:e.kind=3
 ·rw [show stepM Q e=za Q e.aG e.hno by unfold stepM;rw [if_neg k1,if_neg k2,if_pos k3]] at hA⊢;unfold za at hA⊢;by_cases c1:e.aG≠Q.ep
  ·rw [if_pos c1] at hA⊢;exact hN.keep (hA.old (λh=>by have h9:=h.2;simp [nN] at h9)) (Int.le_refl _) id0
  rw [if_neg c1] at hA⊢;by_cases c2:(Q.aF.filter λx=>decide (x.hno≠e.hno)).length=Q.aF.length
  ·rw [if_pos c2] at hA⊢;exact hN.keep (hA.old (λh=>by have h9:=h.2;simp [nN] at h9)) (Int.le_refl _) id0
  rw [if_neg c2] at hA⊢;intro z hz;have sub: ∀ z,z∈jE Q.ready (Q.aF.filter λx=>decide (x.hno≠e.hno))->z∈jE Q.ready Q.aF:=λz h=>by
   rw [BK] at h⊢;exact h.imp id λ⟨u,hu,h1⟩=>⟨u,(List.mem_filter.1 hu).1,h1⟩
  rcases hA z hz with h1 | ⟨_,_,x,hx,h2,h3⟩
  ·exact ⟨(hN z h1).1,λh=>(hN z h1).2 (sub z h)⟩
  refine ⟨by rw [h3];exact anR q4 x hx,λh=>?_⟩;unfold jE at q5;rw [List.nodup_append] at q5;obtain ⟨_,n2,n3⟩:=q5;rw [BK] at h
  rcases h with ⟨m,hm,h4⟩ | ⟨u,hu,h4⟩
  ·exact n3 m.no (List.mem_map_of_mem hm) x.msg.no (List.mem_map_of_mem hx) (h4.trans h3)
  obtain ⟨hu1,hu2⟩:=List.mem_filter.1 hu;obtain ⟨i,hi,rfl⟩:=List.getElem_of_mem hx;obtain ⟨j,hj,rfl⟩:=List.getElem_of_mem hu1;have hp:Q.aF.Pairwise λa b=>a.msg.no≠b.msg.no:=List.pairwise_map.1 n2;rw [List.pairwise_iff_getElem] at hp;have:i=j:=by
   rcases Nat.lt_trichotomy i j with h5 | h5 | h5
   ·exact absurd (h3.symm.trans h4.symm) (hp i j hi hj h5)
   ·exact h5
   exact absurd (h4.trans h3) (hp j i hj hi h5)
  subst this;simp only [ne_eq,decide_not,Bool.not_eq_eq_eq_not,Bool.not_true,decide_eq_false_iff_not] at hu2;exact hu2 h2
 have hA':=hA.old (by omega);rw [show stepM Q e=Dn Q by unfold stepM;rw [if_neg k1,if_neg k2,if_neg k3]];unfold Dn
 split; · exact hN.keep hA' (Int.le_refl _) id0
 refine hN.keep hA' (Int.le_refl _) λz hz=> .inl ?_;dsimp only at hz;rw [BK] at hz⊢
 rcases hz with ⟨m,hm,h1⟩ | ⟨u,hu,h1⟩
 ·have:=(Cg Q.aF Q.ready).mem_iff.1 hm
  rcases List.mem_append.1 this with h2 | h2
  ·first | exact .inl ⟨m,h2,h1⟩ | (obtain ⟨u,hu,rfl⟩:=List.mem_map.1 h2;exact .inr ⟨u,hu,h1⟩)
  first | exact .inl ⟨m,h2,h1⟩ | (obtain ⟨u,hu,rfl⟩:=List.mem_map.1 h2;exact .inr ⟨u,hu,h1⟩)
 cases hu
theorem ad6 (hN:NvI Q ak) (hf:Q.fault=0) (hk:e.kind=2) (hc:(stepM Q e).2.1.code=0) (hA: ∀ z∈zW,z∈ak): ∃ z:Ls,(stepM Q e).1.aF.length=Q.aF.length+1/\(stepM Q e).1.aF[Q.aF.length]? =some z/\(∀ n∈zW,¬ n=z.msg.no)/\ ∀ x∈Q.aF,¬ x.msg.no=z.msg.no:=by
 obtain ⟨_,_,q3,q4,q5⟩:=Ey hf;have e1:stepM Q e=pz Q:=by unfold stepM;rw [if_neg (by omega),if_pos hk]
 rw [e1] at hc⊢;obtain ⟨ep,nx,gv,rs,ls,W⟩:=Q
 cases rs with
 | nil=>exact absurd hc (by simp [pz,nN])
 | cons m r=>
  by_cases hg:gv=1073741824
  ·exact absurd hc (by simp [pz,hg,nN])
  rw [show pz ⟨ep,nx,gv,m::r,ls,W⟩=(⟨ep,nx,gv+1,r,ls++[⟨ep,gv,m⟩],W⟩,⟨0,ep,gv,m.body⟩,true) by simp [pz,hg]];dsimp only at q5⊢;refine ⟨⟨ep,gv,m⟩,by simp,by simp,λn hn h=>?_,λx hx h=>?_⟩
  ·exact (hN n (hA n hn)).2 (BK.2 (.inl ⟨m,List.mem_cons_self,h.symm⟩))
  unfold jE at q5;rw [List.nodup_append] at q5;exact q5.2.2 m.no (List.mem_map_of_mem List.mem_cons_self) x.msg.no (List.mem_map_of_mem hx) h.symm
end
theorem af4 {a b c d:Int} {v:Bool} (h:(a==c&&b==d)=v) (w:World):(binOp .eql 53 (.agg #[iV a,iV b]) (.agg #[iV c,iV d])).run Tryz.prog w= .ok (.bool v) w:=by
 rw [BN,h]
theorem WO {gs:List Gr} {s F:List Ac} {A:Option Addr} {c:Nat} {w:World} (hs:s=bG gs 120 true) (hF:F=jv s 40) (hg: ∀ g∈gs,g.ok) (h0: ∀ a∈F,bV a=0) (hsl:s.length<=1000) (XG:F.length<=1000) (AP:(iX.run F).aP.length<=1000000000) (hu:Uk w.heap.size w) (h:Rd w w.heap.size 5 A gs.length (gs.flatMap Gr.cells)) (hrp: ∀ q,q<2-> ∃ y,rp bT (oN q (iX.run F).aP)=some y):
    Calls Tryz.prog 4 #[.slice A gs.length c] w (λe w'=>e= .returned (.bool true)/\Below w.heap.size w w'):=by
 have S:=(St.start w).bU h;refine gq 148 Tryz.func4 ?_;refine cw [0] ?_;refine zN 8 ?_;refine dz TA (tN (m:=120) hs (by decide) hg _ ((St.rd 0 S rfl))) ?_;rintro _ w3 ⟨A1,c2,rfl,T5⟩;refine ⟨_,rfl,?_⟩;have S4:=S.ext T5 rfl;refine zN 6 ?_;refine dz XM (GL (r:=40) hF (by decide) hsl _ ((St.ord 0 S4 rfl))) ?_;rintro _ w8 ⟨A6,c7,rfl,Oy⟩;refine ⟨_,rfl,?_⟩;have S9:=S4.ext Oy rfl;refine dz PS (Ol h0 XG S9 hu (Ro.own (List.mem_of_getElem? (i:=0) rfl))) ?_;rintro _ Cc ⟨x,ru,rfl,Iz,kE⟩;refine ⟨_,rfl,?_⟩;have hX:=Iz;have D6: ∀ f∈ru,f∈(ru++[.own 69 11 (.slice A6 F.length c7) F.length ((F).flatMap Ac.cells),.own 69 11 (.slice A1 s.length c2) s.length ((s).flatMap Ac.cells),.rd 5 A gs.length ((gs).flatMap Gr.cells)]):=λf h=>List.mem_append_left _ h;refine zN 3 ?_;refine fJ kE Fb ?_;intro b15 w16 jM;refine stA 0 jM sH ?_;intro DK jU;refine zN 10 ?_;refine cZ (X:=Nat) (λxv=>[(2,.bool false),(4,pV b15 0),(5,.bool true),(6,iV ((xv:Nat):Int))]) (λxv wr=>(xv<=2)/\St w.heap.size w wr ((.blk b15 (oX x) 35)::(ru++[.own 69 11 (.slice A6 F.length c7) F.length ((F).flatMap Ac.cells),.own 69 11 (.slice A1 s.length c2) s.length ((s).flatMap Ac.cells),.rd 5 A gs.length ((gs).flatMap Gr.cells)]))) (λxv=>2-xv) (0) ?_ ?_ ?_
 ·exact ⟨Nat.zero_le _,jU⟩
 ·exact ⟨rfl,rfl,rfl,rfl,trivial⟩
 rintro q Ou ⟨hi22,lH⟩
 try dsimp only at hi22 lH
 refine bq (l':=[(2,.bool false),(4,pV b15 0),(5,.bool true),(6,iV ((q:Nat):Int))]) ⟨rfl,rfl,rfl,rfl,trivial⟩ (aH (aH (aC (vm ?_))));by_cases h23:((q:Nat):Int)<2
 ·refine zN 13 ?_;refine je (V:=λb=>pV b 0) (row:=bO 0 0 0 (.slice none 0 0) (.slice none 0 0) fI) (t:=46) lH (wn rfl) rfl rfl (dZ rfl (Tryz.zeroValue46 _) rfl) ?_;intro EP w25 kJ;refine zN 6 ?_;obtain ⟨sv,hsv⟩: ∃ l,oN q (iX.run F).aP=l:=⟨_,rfl⟩;refine dz abC (Tk hsv (hX.aP.rd kJ (memT 2 rfl D6)) (by rw [hX.sn];exact AP)) ?_;rintro _ Uy ⟨UJ,c28,rfl,T31⟩;refine ⟨_,rfl,?_⟩;have oz:=kJ.ext T31 rfl;change St _ _ _ ((.own 60 14 (.slice UJ sv.length c28) sv.length ((sv).flatMap dI.cells))::_::_::(ru++[.own 69 11 (.slice A6 F.length c7) F.length ((F).flatMap Ac.cells),.own 69 11 (.slice A1 s.length c2) s.length ((s).flatMap Ac.cells),.rd 5 A gs.length ((gs).flatMap Gr.cells)])) at oz;refine zN 4 ?_;have hsl2:sv.length<=1000000000:=by rw [<-hsv];exact Nat.le_trans (List.length_filter_le _ _) AP
  obtain ⟨yy,hyy⟩:=hrp q (by omega);rw [hsv] at hyy;refine zN 10 ?_;have qC:=aI (s:=2) (aI (s:=4) (oz.nil 3 1));change St _ _ _ ((.bI 2 none 0 ((bT.ready).flatMap fD.cells))::(.bI 4 none 0 ((bT.aF).flatMap Ls.cells))::(.own 3 1 (.slice none 0 0) 0 ((([]:List Int)).flatMap Nv))::(.own 60 14 (.slice UJ sv.length c28) sv.length ((sv).flatMap dI.cells))::(.blk EP (bO 0 0 0 (.slice none 0 0) (.slice none 0 0) fI) 46)::(.blk b15 (oX x) 35)::(ru++[.own 69 11 (.slice A6 F.length c7) F.length ((F).flatMap Ac.cells),.own 69 11 (.slice A1 s.length c2) s.length ((s).flatMap Ac.cells),.rd 5 A gs.length ((gs).flatMap Gr.cells)])) at qC;refine cZ (X:=Nat×Qd×(Option Addr)×Nat×(Option Addr)×Nat×(List Int)×Nat×(Option Addr)×Nat) (λxv=>[(2,.bool false),(4,pV b15 0),(5,.bool true),(6,iV ((q:Nat):Int)),(7,pV EP 0),(8,.slice UJ sv.length c28),(9,.slice xv.2.2.2.2.2.2.2.2.1 xv.2.2.2.2.2.2.2.1 xv.2.2.2.2.2.2.2.2.2),(10,iV ((xv.1:Nat):Int))]) (λxv wr=>(xv.1<=sv.length)/\(rp xv.2.1 (sv.drop xv.1)=some yy)/\(xv.2.1.ready.length+xv.2.1.aF.length<=501)/\(NvI xv.2.1 xv.2.2.2.2.2.2.1)/\(xv.2.2.2.2.2.2.2.1<=xv.1*501)/\St w.heap.size w wr ((.bI 2 xv.2.2.1 xv.2.1.ready.length ((xv.2.1.ready).flatMap fD.cells))::(.bI 4 xv.2.2.2.2.1 xv.2.1.aF.length ((xv.2.1.aF).flatMap Ls.cells))::(.own 3 1 (.slice xv.2.2.2.2.2.2.2.2.1 xv.2.2.2.2.2.2.2.1 xv.2.2.2.2.2.2.2.2.2) xv.2.2.2.2.2.2.2.1 ((xv.2.2.2.2.2.2.1).flatMap Nv))::(.own 60 14 (.slice UJ sv.length c28) sv.length ((sv).flatMap dI.cells))::(.blk EP (bO xv.2.1.ep xv.2.1.nx xv.2.1.gv (.slice xv.2.2.1 xv.2.1.ready.length xv.2.2.2.1) (.slice xv.2.2.2.2.1 xv.2.1.aF.length xv.2.2.2.2.2.1) xv.2.1.ws) 46)::(.blk b15 (oX x) 35)::(ru++[.own 69 11 (.slice A6 F.length c7) F.length ((F).flatMap Ac.cells),.own 69 11 (.slice A1 s.length c2) s.length ((s).flatMap Ac.cells),.rd 5 A gs.length ((gs).flatMap Gr.cells)]))) (λxv=>sv.length-xv.1) (0,bT,none,0,none,0,[],0,none,0) ?_ ?_ ?_
  ·exact ⟨Nat.zero_le _,hyy,(by simp [bT]),(λz hz=>by cases hz),Nat.zero_le _,qC⟩
  ·exact ⟨rfl,rfl,rfl,rfl,rfl,rfl,rfl,rfl,trivial⟩
  rintro ⟨i,Q,Ar,cr,Al,cl,ak,na,Aa,ca⟩ Xm ⟨Np,Nq,Yq,Hz,aFg,pF⟩
  try dsimp only at Np Nq Yq Hz aFg pF
  refine bq (l':=[(2,.bool false),(4,pV b15 0),(5,.bool true),(6,iV ((q:Nat):Int)),(7,pV EP 0),(8,.slice UJ sv.length c28),(9,.slice Aa na ca),(10,iV ((i:Nat):Int))]) ⟨rfl,rfl,rfl,rfl,rfl,rfl,rfl,rfl,trivial⟩ (aH (aH (aC (vm ?_))));refine zN 2 ?_;by_cases h41:((i:Nat):Int)< ((sv.length:Nat):Int)
  ·refine zN 12 ?_;obtain ⟨EM,o43,rfl⟩:=Rd.addr (St.ord 3 pF rfl) (by omega);obtain ⟨iI,avC⟩:=zL i (St.ord 3 pF rfl) (by omega);refine vv (v:= .pointer (some ⟨EM,o43+i*14,none⟩)) (aJ rfl rfl rfl (cB i Tryz.underlying32 iN (by omega) (by omega))) ?_;refine vv (aj rfl rfl (aA (cs:=dI.cells iI) Tryz.underlying60 rfl iN rfl (Rd.uW (St.ord 3 pF rfl) (λ_ _ h=>aX (enc:=dI.cells) (sz:=14) (λ_=>rfl) avC h)))) ?_;refine je (V:=λb=>pV b 0) (row:= #[iV 0,iV 0,iV 0,iV 0,iV 0,iV 0,iV 0,iV 0,iV 0,iV 0,iV 0,iV 0,iV 0,iV 0]) (t:=60) pF (wn rfl) rfl rfl (dZ rfl (Tryz.zeroValue60 _) rfl) ?_;intro Da w47 rJ;refine stA 0 rJ iN ?_;intro Xb rM;refine zN 4 ?_;obtain ⟨R,hR⟩: ∃ R,gU Q iI.op=R:=⟨_,rfl⟩;obtain ⟨hr1,hr2,hr3⟩:=Kq Nq avC;obtain ⟨hf1,hf2,hf3⟩:=Kr hr1;have hRe:R=((stepM Q iI.op).1,(stepM Q iI.op).2.1,(stepM Q iI.op).2.2,0):=hR▸hf3;rw [hR] at hr1 hr2 hr3;refine zN 5 ?_;refine cZ (X:=Nat×(List Int)×Nat×(Option Addr)×Nat) (λxv=>[(2,.bool false),(4,pV b15 0),(5,.bool true),(6,iV ((q:Nat):Int)),(7,pV EP 0),(8,.slice (some ⟨EM,o43,none⟩) sv.length c28),(10,iV ((i:Nat):Int)),(11,pV Da 0),(9,.slice xv.2.2.2.1 xv.2.2.1 xv.2.2.2.2),(12,iV ((xv.1:Nat):Int))]) (λxv wr=>(xv.1<=Q.aF.length)/\(Vv Q iI.op iI.ans.code ak xv.2.1)/\(xv.2.2.1<=na+xv.1)/\St w.heap.size w wr ((.blk Da #[iV ((iI.nd:Nat):Int),iV ((iI.q:Nat):Int),iV iI.ep,iV iI.op.kind,iV iI.op.producer,iV iI.op.id,iV iI.op.body,iV iI.op.aG,iV iI.op.hno,iV iI.ans.code,iV iI.ans.dK,iV iI.ans.hno,iV iI.ans.body,iV iI.num] 60)::(.bI 2 Ar Q.ready.length ((Q.ready).flatMap fD.cells))::(.bI 4 Al Q.aF.length ((Q.aF).flatMap Ls.cells))::(.own 3 1 (.slice xv.2.2.2.1 xv.2.2.1 xv.2.2.2.2) xv.2.2.1 ((xv.2.1).flatMap Nv))::(.own 60 14 (.slice (some ⟨EM,o43,none⟩) sv.length c28) sv.length ((sv).flatMap dI.cells))::(.blk EP (bO Q.ep Q.nx Q.gv (.slice Ar Q.ready.length cr) (.slice Al Q.aF.length cl) Q.ws) 46)::(.blk b15 (oX x) 35)::(ru++[.own 69 11 (.slice A6 F.length c7) F.length ((F).flatMap Ac.cells),.own 69 11 (.slice A1 s.length c2) s.length ((s).flatMap Ac.cells),.rd 5 A gs.length ((gs).flatMap Gr.cells)]))) (λxv=>Q.aF.length-xv.1) (0,ak,na,Aa,ca) ?_ ?_ ?_
   ·exact ⟨Nat.zero_le _,Vv.nil,Nat.le_refl _,rM⟩
   ·exact ⟨rfl,rfl,rfl,rfl,rfl,rfl,rfl,rfl,rfl,rfl,trivial⟩
   rintro ⟨k,zW,nk,Ak,ck⟩ Xc ⟨aFh,YD,Kg,kS⟩
   try dsimp only at aFh YD Kg kS
   refine bq (l':=[(2,.bool false),(4,pV b15 0),(5,.bool true),(6,iV ((q:Nat):Int)),(7,pV EP 0),(8,.slice (some ⟨EM,o43,none⟩) sv.length c28),(10,iV ((i:Nat):Int)),(11,pV Da 0),(9,.slice Ak nk ck),(12,iV ((k:Nat):Int))]) ⟨rfl,rfl,rfl,rfl,rfl,rfl,rfl,rfl,rfl,rfl,trivial⟩ (aH (aH (aC (vm ?_))));refine zQ ?_;refine vv (aj rfl rfl (av Tryz.underlying40 rfl (St.cl 5 kS rfl ko))) ?_;refine zQ ?_;by_cases h56:((k:Nat):Int)< ((Q.aF.length:Nat):Int)
   ·refine zN 8 ?_;obtain ⟨b57,o58,rfl⟩:=Rd.addr (St.bI 2 kS rfl) (by omega);obtain ⟨EO,QO⟩:=zL k (St.bI 2 kS rfl) (by omega);by_cases hk1:iI.op.kind=3
    ·by_cases hk2:iI.ans.code=0
     ·cases hh:(EO.dK==iI.op.aG&&EO.hno==iI.op.hno)
      ·refine zQ ?_;refine dR kS mixed (by kernel_rfl) ?_;refine uv (v:=pV Da 3) (λ_ _=>fO _ iL) ?_;refine zN 4 ?_;refine ug (v:=pV Da 9) (λ_ _=>fO _ oq) ?_;refine ug (v:=pV Da 9) (λ_ _=>fO _ uP) ?_;refine ug (v:=iV iI.ans.code) (λ_ aFi=>(aj rfl rfl (av Tryz.underlying56 rfl (St.cl 0 aFi rfl rfl)))) ?_;refine zN 4 ?_;refine ug (v:= .slice (some ⟨b57,o58,none⟩) Q.aF.length cl) (λ_ aFj=>(aj rfl rfl (av Tryz.underlying40 rfl (St.cl 5 aFj rfl ko)))) ?_;refine zQ ?_;refine ug (λ_ _=>jI k) ?_;refine zQ ?_;refine ug (v:= .agg #[iV EO.dK,iV EO.hno]) (λ_ aFk=>(aj rfl rfl (aA (cs:=[iV EO.dK,iV EO.hno]) Tryz.underlying53 rfl Bp rfl (Rd.rg3 (x:=0) (m:=2) (L:=Ls.cells EO) (St.bI 2 aFk rfl) (λ_ _ h=>aX (enc:=Ls.cells) (sz:=4) (λ_=>rfl) QO h) rfl)))) ?_;refine ug (v:=pV Da 3) (λ_ _=>fO _ iL) ?_;refine zQ ?_;refine ug (v:= .agg #[iV iI.op.aG,iV iI.op.hno]) (λ_ aFl=>(aj rfl rfl (aA (cs:=[iV iI.op.aG,iV iI.op.hno]) Tryz.underlying53 rfl Bp rfl (St.rg 0 aFl rfl (kW (x:=7) (m:=2) rfl))))) ?_;refine ug (v:= .bool false) (λ_ _=>(aR rfl rfl rfl (xO (by kernel_rfl) (af4 hh _)))) ?_;refine zQ ?_;refine fC λw83 DW=>?_;refine zN 7 ?_;refine vv (v:=iV ((k+1:Nat):Int)) gu ?_;refine zN 2 ?_;refine aM (k+1,zW,nk,Ak,ck) ?_ ⟨rfl,rfl,rfl,rfl,rfl,rfl,rfl,rfl,rfl,rfl,trivial⟩ (by first | omega | (dsimp only;omega));exact ⟨(by dsimp only;omega),YD,(by dsimp only;omega),DW⟩
      have hh2:EO.hno=iI.op.hno:=by simp at hh;exact hh.2
      refine zQ ?_;refine dR kS mixed (by kernel_rfl) ?_;refine uv (v:=pV Da 3) (λ_ _=>fO _ iL) ?_;refine zN 4 ?_;refine ug (v:=pV Da 9) (λ_ _=>fO _ oq) ?_;refine ug (v:=pV Da 9) (λ_ _=>fO _ uP) ?_;refine ug (v:=iV iI.ans.code) (λ_ aFm=>(aj rfl rfl (av Tryz.underlying56 rfl (St.cl 0 aFm rfl rfl)))) ?_;refine zN 4 ?_;refine ug (v:= .slice (some ⟨b57,o58,none⟩) Q.aF.length cl) (λ_ aFo=>(aj rfl rfl (av Tryz.underlying40 rfl (St.cl 5 aFo rfl ko)))) ?_;refine zQ ?_;refine ug (λ_ _=>jI k) ?_;refine zQ ?_;refine ug (v:= .agg #[iV EO.dK,iV EO.hno]) (λ_ ayh=>(aj rfl rfl (aA (cs:=[iV EO.dK,iV EO.hno]) Tryz.underlying53 rfl Bp rfl (Rd.rg3 (x:=0) (m:=2) (L:=Ls.cells EO) (St.bI 2 ayh rfl) (λ_ _ h=>aX (enc:=Ls.cells) (sz:=4) (λ_=>rfl) QO h) rfl)))) ?_;refine ug (v:=pV Da 3) (λ_ _=>fO _ iL) ?_;refine zQ ?_;refine ug (v:= .agg #[iV iI.op.aG,iV iI.op.hno]) (λ_ ayi=>(aj rfl rfl (aA (cs:=[iV iI.op.aG,iV iI.op.hno]) Tryz.underlying53 rfl Bp rfl (St.rg 0 ayi rfl (kW (x:=7) (m:=2) rfl))))) ?_;refine ug (v:= .bool true) (λ_ _=>(aR rfl rfl rfl (xO (by kernel_rfl) (af4 hh _)))) ?_;refine zQ ?_;refine fC λatf rQ=>?_;refine zN 5 ?_;refine vv (aj rfl rfl (av Tryz.underlying40 rfl (St.cl 5 rQ rfl ko))) ?_;refine zQ ?_;refine vv (jI k) ?_;refine zN 2 ?_;refine vv (aj rfl rfl (av Tryz.underlying3 rfl (Rd.xH (i:=2) (St.bI 2 rQ rfl) (aX (enc:=Ls.cells) (sz:=4) (λ_=>rfl) QO rfl)))) ?_;refine bsI rQ ?_;intro atu aoo ze;refine dw (news:=[iV EO.msg.no]) (xs':=(zW++[EO.msg.no]).flatMap Nv) 4 ze (wn rfl) rfl rfl rfl rfl rfl rfl (St.lM (xs:=[iV EO.msg.no]) 0 ze rfl rfl rfl) Tryz.underlying51 ayg rfl (by decide) (bX rfl) (by simp only [maxLen];omega) (by omega) (iJ (enc:=Nv) rfl rfl) ?_;intro Uc Yl aiy aHE aHF pJ;change St _ _ _ (_::_::_::_::(.own 3 1 (.slice Uc (nk+1) Yl) (nk+1) ((zW++[EO.msg.no]).flatMap Nv))::_::_::_::(ru++[.own 69 11 (.slice A6 F.length c7) F.length ((F).flatMap Ac.cells),.own 69 11 (.slice A1 s.length c2) s.length ((s).flatMap Ac.cells),.rd 5 A gs.length ((gs).flatMap Gr.cells)])) at pJ;refine zN 6 ?_;refine vv (v:=iV ((k+1:Nat):Int)) gu ?_;refine zN 2 ?_;have vC:=pJ.aU [0];refine aM (k+1,zW++[EO.msg.no],nk+1,Uc,Yl) ?_ ⟨rfl,rfl,rfl,rfl,rfl,rfl,rfl,rfl,rfl,rfl,trivial⟩ (by first | omega | (dsimp only;omega));exact ⟨(by dsimp only;omega),(Vv.more YD hk1 hk2 QO hh2),(by dsimp only;omega),vC⟩
     refine zQ ?_;refine dR kS mixed (by kernel_rfl) ?_;refine uv (v:=pV Da 3) (λ_ _=>fO _ iL) ?_;refine zN 4 ?_;refine ug (v:=pV Da 9) (λ_ _=>fO _ oq) ?_;refine ug (v:=pV Da 9) (λ_ _=>fO _ uP) ?_;refine ug (v:=iV iI.ans.code) (λ_ ayj=>(aj rfl rfl (av Tryz.underlying56 rfl (St.cl 0 ayj rfl rfl)))) ?_;refine zN 14 ?_;refine fC λabN xg=>?_;refine zN 7 ?_;refine vv (v:=iV ((k+1:Nat):Int)) gu ?_;refine zN 2 ?_;refine aM (k+1,zW,nk,Ak,ck) ?_ ⟨rfl,rfl,rfl,rfl,rfl,rfl,rfl,rfl,rfl,rfl,trivial⟩ (by first | omega | (dsimp only;omega));exact ⟨(by dsimp only;omega),YD,(by dsimp only;omega),xg⟩
    refine zQ ?_;refine dR kS mixed (by kernel_rfl) ?_;refine uv (v:=pV Da 3) (λ_ _=>fO _ iL) ?_;refine zN 21 ?_;refine fC λao1 Fg=>?_;refine zN 7 ?_;refine vv (v:=iV ((k+1:Nat):Int)) gu ?_;refine zN 2 ?_;refine aM (k+1,zW,nk,Ak,ck) ?_ ⟨rfl,rfl,rfl,rfl,rfl,rfl,rfl,rfl,rfl,rfl,trivial⟩ (by first | omega | (dsimp only;omega));exact ⟨(by dsimp only;omega),YD,(by dsimp only;omega),Fg⟩
   refine zN 10 ?_;have hak:=YD;have hnv:NvI R.1 zW:=by rw [hRe];exact ZT Hz hf1 (by rw [<-show R.2.1=(stepM Q iI.op).2.1 by rw [hRe],hr2];exact hak)
   refine zN 2 ?_;refine vv (fO 3 iL) ?_;refine vv (aj rfl rfl (aA (cs:=[iV iI.op.kind,iV iI.op.producer,iV iI.op.id,iV iI.op.body,iV iI.op.aG,iV iI.op.hno]) Tryz.underlying55 rfl iC rfl (St.rg 0 kS rfl (kW (x:=3) (m:=6) rfl)))) ?_;have HD:=λA1 A2 c1 c2 w h1 h2=>lY Q.ep Q.nx Q.gv iI.op.kind iI.op.producer iI.op.id iI.op.body iI.op.aG iI.op.hno A1 A2 c1 c2 Q.ready Q.aF Q.ws w h1 h2 (by unfold reachBytes;omega) (by unfold reachBytes;omega);rw [show gU ⟨Q.ep,Q.nx,Q.gv,Q.ready,Q.aF,Q.ws⟩ ⟨iI.op.kind,iI.op.producer,iI.op.id,iI.op.body,iI.op.aG,iI.op.hno⟩=R from hR] at HD;refine dz E9 (HD Ar Al cr cl _ (St.bI 1 kS rfl) (St.bI 2 kS rfl)) ?_;rintro _ aou ⟨Ci,Ia,Ck,c146,rfl,ao2⟩;refine ⟨_,rfl,?_⟩;have zh:=kS.ext ao2 rfl;change St _ _ _ ((.bI 2 Ci R.1.ready.length ((R.1.ready).flatMap fD.cells))::(.bI 4 Ck R.1.aF.length ((R.1.aF).flatMap Ls.cells))::_::_::_::_::_::_::_::(ru++[.own 69 11 (.slice A6 F.length c7) F.length ((F).flatMap Ac.cells),.own 69 11 (.slice A1 s.length c2) s.length ((s).flatMap Ac.cells),.rd 5 A gs.length ((gs).flatMap Gr.cells)])) at zh;clear HD;refine zN 5 ?_;refine je (V:=λb=>pV b 0) (row:=bO 0 0 0 (.slice none 0 0) (.slice none 0 0) fI) (t:=46) zh (wn rfl) rfl rfl (dZ rfl (Tryz.zeroValue46 _) rfl) ?_;intro Nr au2 Fv;refine fJ Fv oK ?_;intro avD aMy aoV;refine stA 1 aoV gZ ?_ (h1:=by exact tq rfl rfl);intro aDf acE;refine stA 0 acE dh ?_;intro au3 Km;refine zN 10 ?_;refine PV (vv (fO 3 iL) ?_);refine zN 2 ?_;by_cases aFp:iI.op.kind=2
   ·refine zN 2 ?_;refine vg (fO 9 oq) ?_;refine vg (fO 9 uP) ?_;refine vg (aj rfl rfl (av Tryz.underlying56 rfl (St.cl 4 Km rfl rfl))) ?_;by_cases aFq:iI.ans.code=0
    ·refine zN 6 ?_;obtain ⟨z,hz0,hz1,hz2,hz3⟩:=ad6 (zW:=zW) Hz hf1 aFp (by rw [<-show R.2.1=(stepM Q iI.op).2.1 by rw [hRe],hr2];exact aFq) (Vv.old hak (λh=>by have:=h.1;omega));rw [<-show R.1=(stepM Q iI.op).1 by rw [hRe]] at hz0 hz1;refine zN 2 ?_;refine vv (aj rfl rfl (av Tryz.underlying40 rfl (St.cl 1 Km rfl ko))) ?_;refine zQ ?_;refine vv (aj rfl rfl (av Tryz.underlying40 rfl (St.cl 1 Km rfl ko))) ?_;refine zQ ?_;refine vv (v:=iV ((Q.aF.length:Nat):Int)) ysu ?_;obtain ⟨ad7,ad8,rfl⟩:=Rd.addr (St.bI 3 Km rfl) (by omega);refine vv (jI Q.aF.length) ?_;refine zN 2 ?_;refine vv (aj rfl rfl (av Tryz.underlying3 rfl (Rd.xH (i:=2) (St.bI 3 Km rfl) (aX (enc:=Ls.cells) (sz:=4) (λ_=>rfl) hz1 rfl)))) ?_;refine zN 10 ?_;refine cZ (X:=Nat) (λxv=>[(2,.bool false),(4,pV b15 0),(5,.bool true),(6,iV ((q:Nat):Int)),(7,pV EP 0),(8,.slice (some ⟨EM,o43,none⟩) sv.length c28),(10,iV ((i:Nat):Int)),(9,.slice Ak nk ck),(13,pV Nr 0),(17,iV z.msg.no),(18,iV ((xv:Nat):Int))]) (λxv wr=>(xv<=nk)/\St w.heap.size w wr ((.blk avD #[iV R.2.1.code,iV R.2.1.dK,iV R.2.1.hno,iV R.2.1.body] 58)::(.blk Nr (bO R.1.ep R.1.nx R.1.gv (.slice Ci R.1.ready.length Ia) (.slice (some ⟨ad7,ad8,none⟩) R.1.aF.length c146) R.1.ws) 46)::(.bI 2 Ci R.1.ready.length ((R.1.ready).flatMap fD.cells))::(.bI 4 (some ⟨ad7,ad8,none⟩) R.1.aF.length ((R.1.aF).flatMap Ls.cells))::(.blk Da #[iV ((iI.nd:Nat):Int),iV ((iI.q:Nat):Int),iV iI.ep,iV iI.op.kind,iV iI.op.producer,iV iI.op.id,iV iI.op.body,iV iI.op.aG,iV iI.op.hno,iV iI.ans.code,iV iI.ans.dK,iV iI.ans.hno,iV iI.ans.body,iV iI.num] 60)::(.bI 2 Ar Q.ready.length ((Q.ready).flatMap fD.cells))::(.bI 4 Al Q.aF.length ((Q.aF).flatMap Ls.cells))::(.own 3 1 (.slice Ak nk ck) nk ((zW).flatMap Nv))::(.own 60 14 (.slice (some ⟨EM,o43,none⟩) sv.length c28) sv.length ((sv).flatMap dI.cells))::(.blk EP (bO Q.ep Q.nx Q.gv (.slice Ar Q.ready.length cr) (.slice Al Q.aF.length cl) Q.ws) 46)::(.blk b15 (oX x) 35)::(ru++[.own 69 11 (.slice A6 F.length c7) F.length ((F).flatMap Ac.cells),.own 69 11 (.slice A1 s.length c2) s.length ((s).flatMap Ac.cells),.rd 5 A gs.length ((gs).flatMap Gr.cells)]))) (λxv=>nk-xv) (0) ?_ ?_ ?_
     ·exact ⟨Nat.zero_le _,Km⟩
     ·exact ⟨rfl,rfl,rfl,rfl,rfl,rfl,rfl,rfl,rfl,rfl,rfl,trivial⟩
     rintro j aov ⟨ayk,rT⟩
     try dsimp only at ayk rT
     refine bq (l':=[(2,.bool false),(4,pV b15 0),(5,.bool true),(6,iV ((q:Nat):Int)),(7,pV EP 0),(8,.slice (some ⟨EM,o43,none⟩) sv.length c28),(10,iV ((i:Nat):Int)),(9,.slice Ak nk ck),(13,pV Nr 0),(17,iV z.msg.no),(18,iV ((j:Nat):Int))]) ⟨rfl,rfl,rfl,rfl,rfl,rfl,rfl,rfl,rfl,rfl,rfl,trivial⟩ (aH (aH (aC (vm ?_))));refine zN 2 ?_;by_cases aMz:((j:Nat):Int)< ((nk:Nat):Int)
     ·refine zN 12 ?_;obtain ⟨aMA,aMB,rfl⟩:=Rd.addr (St.ord 7 rT rfl) (by omega);obtain ⟨aMC,anS⟩:=zL j (St.ord 7 rT rfl) (by omega);refine vv (jI j) ?_;refine vv (aj rfl rfl (av Tryz.underlying3 rfl (Rd.xH (i:=0) (St.ord 7 rT rfl) (aX (enc:=Nv) (sz:=1) (λ_=>rfl) anS rfl)))) ?_;refine zQ ?_;have hq9:=hz2 _ (List.mem_of_getElem? anS);refine zN 9 ?_;refine vv (v:=iV ((j+1:Nat):Int)) gu ?_;refine zN 2 ?_;refine aM (j+1) ?_ ⟨rfl,rfl,rfl,rfl,rfl,rfl,rfl,rfl,rfl,rfl,rfl,trivial⟩ (by first | omega | (dsimp only;omega));exact ⟨(by omega),rT⟩
     refine zN 15 ?_;refine cZ (X:=Nat) (λxv=>[(2,.bool false),(4,pV b15 0),(5,.bool true),(6,iV ((q:Nat):Int)),(7,pV EP 0),(8,.slice (some ⟨EM,o43,none⟩) sv.length c28),(10,iV ((i:Nat):Int)),(9,.slice Ak nk ck),(13,pV Nr 0),(17,iV z.msg.no),(19,iV ((xv:Nat):Int))]) (λxv wr=>(xv<=Q.aF.length)/\St w.heap.size w wr ((.blk avD #[iV R.2.1.code,iV R.2.1.dK,iV R.2.1.hno,iV R.2.1.body] 58)::(.blk Nr (bO R.1.ep R.1.nx R.1.gv (.slice Ci R.1.ready.length Ia) (.slice (some ⟨ad7,ad8,none⟩) R.1.aF.length c146) R.1.ws) 46)::(.bI 2 Ci R.1.ready.length ((R.1.ready).flatMap fD.cells))::(.bI 4 (some ⟨ad7,ad8,none⟩) R.1.aF.length ((R.1.aF).flatMap Ls.cells))::(.blk Da #[iV ((iI.nd:Nat):Int),iV ((iI.q:Nat):Int),iV iI.ep,iV iI.op.kind,iV iI.op.producer,iV iI.op.id,iV iI.op.body,iV iI.op.aG,iV iI.op.hno,iV iI.ans.code,iV iI.ans.dK,iV iI.ans.hno,iV iI.ans.body,iV iI.num] 60)::(.bI 2 Ar Q.ready.length ((Q.ready).flatMap fD.cells))::(.bI 4 Al Q.aF.length ((Q.aF).flatMap Ls.cells))::(.own 3 1 (.slice Ak nk ck) nk ((zW).flatMap Nv))::(.own 60 14 (.slice (some ⟨EM,o43,none⟩) sv.length c28) sv.length ((sv).flatMap dI.cells))::(.blk EP (bO Q.ep Q.nx Q.gv (.slice Ar Q.ready.length cr) (.slice Al Q.aF.length cl) Q.ws) 46)::(.blk b15 (oX x) 35)::(ru++[.own 69 11 (.slice A6 F.length c7) F.length ((F).flatMap Ac.cells),.own 69 11 (.slice A1 s.length c2) s.length ((s).flatMap Ac.cells),.rd 5 A gs.length ((gs).flatMap Gr.cells)]))) (λxv=>Q.aF.length-xv) (0) ?_ ?_ ?_
     ·exact ⟨Nat.zero_le _,rT⟩
     ·exact ⟨rfl,rfl,rfl,rfl,rfl,rfl,rfl,rfl,rfl,rfl,rfl,trivial⟩
     rintro j aiN ⟨ayl,AB⟩
     try dsimp only at ayl AB
     refine bq (l':=[(2,.bool false),(4,pV b15 0),(5,.bool true),(6,iV ((q:Nat):Int)),(7,pV EP 0),(8,.slice (some ⟨EM,o43,none⟩) sv.length c28),(10,iV ((i:Nat):Int)),(9,.slice Ak nk ck),(13,pV Nr 0),(17,iV z.msg.no),(19,iV ((j:Nat):Int))]) ⟨rfl,rfl,rfl,rfl,rfl,rfl,rfl,rfl,rfl,rfl,rfl,trivial⟩ (aH (aH (aC (vm ?_))));refine zQ ?_;refine vv (aj rfl rfl (av Tryz.underlying40 rfl (St.cl 9 AB rfl ko))) ?_;refine zQ ?_;by_cases aMD:((j:Nat):Int)< ((Q.aF.length:Nat):Int)
     ·refine zN 11 ?_;refine vv (aj rfl rfl (av Tryz.underlying40 rfl (St.cl 9 AB rfl ko))) ?_;refine zQ ?_;obtain ⟨aME,aMF,rfl⟩:=Rd.addr (St.bI 6 AB rfl) (by omega);obtain ⟨aMG,anT⟩:=zL j (St.bI 6 AB rfl) (by omega);refine vv (jI j) ?_;refine zN 2 ?_;refine vv (aj rfl rfl (av Tryz.underlying3 rfl (Rd.xH (i:=2) (St.bI 6 AB rfl) (aX (enc:=Ls.cells) (sz:=4) (λ_=>rfl) anT rfl)))) ?_;refine zQ ?_;have hq9:=hz3 _ (List.mem_of_getElem? anT);refine zN 9 ?_;refine vv (v:=iV ((j+1:Nat):Int)) gu ?_;refine zN 2 ?_;refine aM (j+1) ?_ ⟨rfl,rfl,rfl,rfl,rfl,rfl,rfl,rfl,rfl,rfl,rfl,trivial⟩ (by first | omega | (dsimp only;omega));exact ⟨(by omega),AB⟩
     refine zN 11 ?_;refine stA 9 AB gZ ?_ (h1:=by exact tq rfl rfl);intro aEF TR;refine zN 5 ?_;refine vv (v:=iV ((i+1:Nat):Int)) gu ?_;refine zN 2 ?_;have apd:=TR.aU [6,5,4,1,0];refine aM (i+1,R.1,Ci,Ia,(some ⟨ad7,ad8,none⟩),c146,zW,nk,Ak,ck) ?_ ⟨rfl,rfl,rfl,rfl,rfl,rfl,rfl,rfl,trivial⟩ (by first | omega | (dsimp only;omega));exact ⟨(by dsimp only;omega),hr3,(by dsimp only;exact hR▸Gm (by rw [hR];exact hr1)),hnv,(by dsimp only;omega),apd⟩
    refine zN 9 ?_;refine stA 9 Km gZ ?_ (h1:=by exact tq rfl rfl);intro auT adq;refine zN 5 ?_;refine vv (v:=iV ((i+1:Nat):Int)) gu ?_;refine zN 2 ?_;have ai4:=adq.aU [6,5,4,1,0];refine aM (i+1,R.1,Ci,Ia,Ck,c146,zW,nk,Ak,ck) ?_ ⟨rfl,rfl,rfl,rfl,rfl,rfl,rfl,rfl,trivial⟩ (by first | omega | (dsimp only;omega));exact ⟨(by dsimp only;omega),hr3,(by dsimp only;exact hR▸Gm (by rw [hR];exact hr1)),hnv,(by dsimp only;omega),ai4⟩
   refine zN 14 ?_;refine stA 9 Km gZ ?_ (h1:=by exact tq rfl rfl);intro aDh adr;refine zN 5 ?_;refine vv (v:=iV ((i+1:Nat):Int)) gu ?_;refine zN 2 ?_;have ads:=adr.aU [6,5,4,1,0];refine aM (i+1,R.1,Ci,Ia,Ck,c146,zW,nk,Ak,ck) ?_ ⟨rfl,rfl,rfl,rfl,rfl,rfl,rfl,rfl,trivial⟩ (by first | omega | (dsimp only;omega));exact ⟨(by dsimp only;omega),hr3,(by dsimp only;exact hR▸Gm (by rw [hR];exact hr1)),hnv,(by dsimp only;omega),ads⟩
  refine zN 12 ?_;refine vv (v:=iV ((q+1:Nat):Int)) gu ?_;refine zN 2 ?_;have Ua:=pF.aU [4,3,2,1,0];refine aM (q+1) ?_ ⟨rfl,rfl,rfl,rfl,trivial⟩ (by first | omega | (dsimp only;omega));exact ⟨(by omega),Ua⟩
 refine zN 20 ?_;exact ⟨rfl,lH.low⟩
theorem OZ (W:World) (hu:Uk W.heap.size W) (args:Array Value) (h:dD (zG Tryz.prog W) args.toList Tryz.f4.params.toList):
  Calls Tryz.prog 4 args W λe W'=>e= .returned (.bool true)/\Below W.heap.size W W':=by
 rw [Tryz.params4] at h;obtain ⟨v,l1,hv,h1,h0⟩:=dD.p8 h;have h4:=dD.rC h0;subst h4;obtain rfl:args= #[v]:=by cases args;simp_all
 obtain ⟨A,c,gs,rfl,hr,hg⟩:=rX h1;exact WO rfl rfl hg (pW gs 120 true 40) (by have:=nS gs 120 true;omega) (by have:=yP gs 120 true 40;omega) (Bh gs true (by decide)) hu hr (λq hq=>(Kt (gs:=gs) (cr:=true) (m:=120) (r:=40) (by decide) hq).imp λ_ h=>h.1)
end Go.Proofs.YtnhimdkpkmbhlaaGreatDoor
