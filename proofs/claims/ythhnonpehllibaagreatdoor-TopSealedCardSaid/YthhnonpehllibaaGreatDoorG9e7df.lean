import Derived.Test.YthhnonpehllibaaGreatDoorGf2a5a
set_option maxRecDepth 100000
set_option maxHeartbeats 8000000
namespace Go.Proofs.YthhnonpehllibaaGreatDoor
open ChangeShapes WideShapes RowKit
theorem abF {gs:List Gr} {m:Nat} {cr:Bool} (hm:m<=500) {i j n q:Nat} (hj:j<=i) (hn:n<5) (hq:q<2) (h3:(((dZ.run ((aY gs m cr).take j)).ah n).view q).role=3) (hs:serves (((dZ.run ((aY gs m cr).take i)).ah n).view q)):
  (((dZ.run ((aY gs m cr).take j)).ah n).view q).ep< (((dZ.run ((aY gs m cr).take i)).ah n).view q).ep:=by
 rcases Nat.lt_or_ge j 2 with h | h
 ·exfalso
  rcases Dx (gs:=gs) (m:=m) (cr:=cr) h n q with e | e<;>rw [e] at h3<;>cases h3
 obtain ⟨g,g',k,k',h1,h2,L⟩:=yM hm h hj hq;obtain ⟨a1,a2⟩:=h1.acg hn h3;obtain ⟨b1,b2⟩:=h2.aU hn hs;have:=L.mle;by_cases e:(((dZ.run ((aY gs m cr).take j)).ah n).view q).ep=g.m
 ·by_cases e2:g'.m=g.m
  ·exfalso
   have e3:=a2 e;have:=L.iM e2 (by unfold vw;rw [<-e3];exact h3);unfold vw at this;rw [<-e3] at this;unfold serves at hs;omega
  omega
 omega
theorem aiI {gs:List Gr} {m:Nat} {cr:Bool} (hm:m<=500) {i n q:Nat} (hn:n<5) (hq:q<2) (hs:serves (((dZ.run ((aY gs m cr).take i)).ah n).view q)):0< (((dZ.run ((aY gs m cr).take i)).ah n).view q).ep:=by
 rcases Nat.lt_or_ge i 2 with h | h
 ·rcases Dx (gs:=gs) (m:=m) (cr:=cr) h n q with e | e
  ·rw [e] at hs
   rcases hs with h | h<;>cases h
  rw [e];decide
 obtain ⟨g,g',k,k',h1,h2,L⟩:=yM (gs:=gs) (cr:=cr) hm h (Nat.le_refl i) hq;have:=(h2.aU hn hs).2;have:=h2.qi.m1;omega
theorem xA {gs:List Gr} {A:Option Addr} {c m:Nat} {cr:Bool} {s:List Ac} (hs:s=aY gs m cr) (hm:m<=1000) (hg: ∀ g∈gs,g.ok) (w:World) (h:Rd w w.heap.size 5 A gs.length (gs.flatMap Gr.cells)):
  Calls Tryz.prog 8 #[.slice A gs.length c,.int .i64 ((m:Nat):Int),.bool cr] w (λe w'=> ∃ A' c',e= .returned (.slice A' s.length c')/\St w.heap.size w w' [.own 57 11 (.slice A' s.length c') s.length (s.flatMap Ac.cells)]):=by
 subst hs;exact zl hm hg w h
def FT (f:Nat->Int):Array Value:= #[.int .i64 (f 0),.int .i64 (f 1),.int .i64 (f 2),.int .i64 (f 3),.int .i64 (f 4),.int .i64 (f 5),.int .i64 (f 6),.int .i64 (f 7),.int .i64 (f 8),.int .i64 (f 9)]
theorem ada {k:Nat} (h:k<10):k=0\/k=1\/k=2\/k=3\/k=4\/k=5\/k=6\/k=7\/k=8\/k=9:=by omega
theorem abG {f:Nat->Int} {n q:Nat} (h:n<5) (hq:q<2):(FT f)[0+n*2+q*1]? =some (.int .i64 (f (n*2+q))):=by
 rw [show 0+n*2+q*1=n*2+q by omega]
 rcases ada (k:=n*2+q) (by omega) with e | e | e | e | e | e | e | e | e | e<;>rw [e]<;>rfl
theorem abH {f:Nat->Int} {n q:Nat} {v:Int} (h:n<5) (hq:q<2):cu (FT f) (0+n*2+q*1) (#[.int .i64 v]:Array Value).toList=FT (upd f (n*2+q) v):=by
 rw [show 0+n*2+q*1=n*2+q by omega]
 rcases ada (k:=n*2+q) (by omega) with e | e | e | e | e | e | e | e | e | e<;>rw [e]<;>rfl
def QM (s:List Ac) (i:Nat) (f:Nat->Int):Prop:= ∀ n q,n<5->q<2->f (n*2+q)=0\/ ∃ j,j<i/\(((dZ.run (s.take j)).ah n).view q).role=3/\(((dZ.run (s.take j)).ah n).view q).ep=f (n*2+q)
theorem QM.next {s:List Ac} {i:Nat} {f:Nat->Int} (h:QM s i f):QM s (i+1) f:=λn q hn hq=>(h n q hn hq).imp id λ⟨j,h1,h2⟩=>⟨j,by omega,h2⟩
theorem QM.set {s:List Ac} {i n q:Nat} {f:Nat->Int} {e:Int} (h:QM s (i+1) f) (hq:q<2) (hr:(((dZ.run (s.take i)).ah n).view q).role=3) (he:(((dZ.run (s.take i)).ah n).view q).ep=e):QM s (i+1) (upd f (n*2+q) e):=by
 intro n' q' hn' hq';unfold upd
 split
 ·rename_i e1
  obtain rfl:n'=n:=by omega
  obtain rfl:q'=q:=by omega
  exact .inr ⟨i,by omega,hr,he⟩
 exact h n' q' hn' hq'
theorem QN {gs:List Gr} {s:List Ac} {A:Option Addr} {c:Nat} {w:World} (hs:s=aY gs 60 true) (hg: ∀ g∈gs,g.ok) (h0: ∀ a∈s,dz a=0) (hsl:s.length<=1000) (hu:Uk w.heap.size w) (h:Rd w w.heap.size 5 A gs.length (gs.flatMap Gr.cells)) (hse: ∀ i n q,n<5->q<2->serves (((dZ.run (s.take i)).ah n).view q)-> ∀ f,QM s (i+1) f->f (n*2+q)< (((dZ.run (s.take i)).ah n).view q).ep):
    Calls Tryz.prog 4 #[.slice A gs.length c] w (λe w'=>e= .returned (.bool true)/\Below w.heap.size w w'):=by
 have S:=(St.start w).bV h;refine gu 69 Tryz.func4 ?_;refine cw [0] ?_;refine zN 8 ?_;refine dH afq (xA (m:=60) hs (by decide) hg _ ((St.rd 0 S rfl))) ?_;rintro _ w3 ⟨A1,c2,rfl,T5⟩;refine ⟨_,rfl,?_⟩;have S4:=S.ext T5 rfl;refine dH afp (qp (by omega) (dn (S4.own 0 rfl)).1 h0 S4 hu (Ro.own (List.mem_of_getElem? (i:=0) rfl))) ?_;rintro _ w6 ⟨H6,L9,sF,c11,rfl,ach,Rs,S7⟩;refine ⟨_,rfl,?_⟩;refine zN 9 ?_;refine lN (V:=λb=> .pointer (some ⟨b,0,none⟩)) (row:= #[.int .i64 0,.int .i64 0,.int .i64 0,.int .i64 0,.int .i64 0,.int .i64 0,.int .i64 0,.int .i64 0,.int .i64 0,.int .i64 0]) (t:=47) S7 (wn rfl) rfl rfl (jf rfl (Tryz.zeroValue47 _) rfl) ?_;intro b14 Gl kN;refine zN 9 ?_;refine dN (X:=Nat×(Nat->Int)) (λxv=>[(2,.bool false),(3,.slice sF (s.length+1) c11),(4,.bool true),(5,.pointer (some ⟨b14,0,none⟩)),(6,.int .i64 ((xv.1:Nat):Int))]) (λxv wr=>(xv.1<=s.length+1)/\(QM s xv.1 xv.2)/\St w.heap.size w wr ((.blk b14 (FT xv.2) 47)::(.own 40 18 (.slice sF (s.length+1) c11) (s.length+1) ((H6).flatMap OX.cells))::(L9++[.own 57 11 (.slice A1 s.length c2) s.length ((s).flatMap Ac.cells),.rd 5 A gs.length ((gs).flatMap Gr.cells)]))) (λxv=>s.length+1-xv.1) (0,(λ_=>0)) ?_ ?_ ?_
 ·exact ⟨Nat.zero_le _,(λ_ _ _ _=> .inl rfl),kN⟩
 ·exact ⟨rfl,rfl,rfl,rfl,rfl,trivial⟩
 rintro ⟨i,f⟩ Jq ⟨ZM,afx,iL⟩
 try dsimp only at ZM afx iL
 refine bC (l':=[(2,.bool false),(3,.slice sF (s.length+1) c11),(4,.bool true),(5,.pointer (some ⟨b14,0,none⟩)),(6,.int .i64 ((i:Nat):Int))]) ⟨rfl,rfl,rfl,rfl,rfl,trivial⟩ (aK (aK (aC (vm ?_))));refine zN 2 ?_;by_cases h21:((i:Nat):Int)< ((s.length+1:Nat):Int)
 ·refine zN 9 ?_;obtain ⟨x,hx⟩: ∃ x,H6[i]? =some x:=⟨_,List.getElem?_eq_getElem (by omega)⟩;have hX:=Rs _ _ hx;obtain ⟨ps,hpl,Cj,hp1⟩:=hX.ps;have nQ: ∀ f∈L9,f∈(L9++[.own 57 11 (.slice A1 s.length c2) s.length ((s).flatMap Ac.cells),.rd 5 A gs.length ((gs).flatMap Gr.cells)]):=λf h=>List.mem_append_left _ h;obtain ⟨bA,oA,hBa⟩:=pF Cj iL (memT 2 rfl nQ) (by decide);refine zN 5 ?_;refine dN (X:=Nat×(Nat->Int)) (λxv=>[(2,.bool false),(3,.slice sF (s.length+1) c11),(4,.bool true),(5,.pointer (some ⟨b14,0,none⟩)),(6,.int .i64 ((i:Nat):Int)),(7,.int .i64 ((xv.1:Nat):Int))]) (λxv wr=>(xv.1<=5)/\(QM s (i+1) xv.2)/\St w.heap.size w wr ((.blk b14 (FT xv.2) 47)::(.own 40 18 (.slice sF (s.length+1) c11) (s.length+1) ((H6).flatMap OX.cells))::(L9++[.own 57 11 (.slice A1 s.length c2) s.length ((s).flatMap Ac.cells),.rd 5 A gs.length ((gs).flatMap Gr.cells)]))) (λxv=>5-xv.1) (0,f) ?_ ?_ ?_
  ·exact ⟨Nat.zero_le _,(QM.next afx),iL⟩
  ·exact ⟨rfl,rfl,rfl,rfl,rfl,rfl,trivial⟩
  rintro ⟨n,f1⟩ w22 ⟨ayi,alb,lV⟩
  try dsimp only at ayi alb lV
  refine bC (l':=[(2,.bool false),(3,.slice sF (s.length+1) c11),(4,.bool true),(5,.pointer (some ⟨b14,0,none⟩)),(6,.int .i64 ((i:Nat):Int)),(7,.int .i64 ((n:Nat):Int))]) ⟨rfl,rfl,rfl,rfl,rfl,rfl,trivial⟩ (aK (aK (aC (vm ?_))));refine zN 2 ?_;obtain ⟨Qe,o27,rfl⟩:=Rd.addr (St.ord 1 lV rfl) (by omega);obtain ⟨x28,hx29⟩:=KG i (St.ord 1 lV rfl) (by omega);refine vv (jd i) ?_;refine zQ ?_;refine vv (aj rfl rfl (ay Tryz.underlying36 rfl (Rd.RG (i:=14) (St.ord 1 lV rfl) (aZ (enc:=OX.cells) (sz:=18) (λ_=>rfl) hx29 rfl)))) ?_;refine zQ ?_;by_cases h30:((n:Nat):Int)<5
  ·refine zN 14 ?_;refine dN (X:=Nat×(Nat->Int)) (λxv=>[(2,.bool false),(3,.slice (some ⟨Qe,o27,none⟩) (s.length+1) c11),(4,.bool true),(5,.pointer (some ⟨b14,0,none⟩)),(6,.int .i64 ((i:Nat):Int)),(7,.int .i64 ((n:Nat):Int)),(8,.int .i64 ((xv.1:Nat):Int))]) (λxv wr=>(xv.1<=2)/\(QM s (i+1) xv.2)/\St w.heap.size w wr ((.blk b14 (FT xv.2) 47)::(.own 40 18 (.slice (some ⟨Qe,o27,none⟩) (s.length+1) c11) (s.length+1) ((H6).flatMap OX.cells))::(L9++[.own 57 11 (.slice A1 s.length c2) s.length ((s).flatMap Ac.cells),.rd 5 A gs.length ((gs).flatMap Gr.cells)]))) (λxv=>2-xv.1) (0,f1) ?_ ?_ ?_
   ·exact ⟨Nat.zero_le _,alb,lV⟩
   ·exact ⟨rfl,rfl,rfl,rfl,rfl,rfl,rfl,trivial⟩
   rintro ⟨q,f2⟩ Yx ⟨u6,BD,mK⟩
   try dsimp only at u6 BD mK
   refine bC (l':=[(2,.bool false),(3,.slice (some ⟨Qe,o27,none⟩) (s.length+1) c11),(4,.bool true),(5,.pointer (some ⟨b14,0,none⟩)),(6,.int .i64 ((i:Nat):Int)),(7,.int .i64 ((n:Nat):Int)),(8,.int .i64 ((q:Nat):Int))]) ⟨rfl,rfl,rfl,rfl,rfl,rfl,rfl,trivial⟩ (aK (aK (aC (vm ?_))));by_cases h35:((q:Nat):Int)<2
   ·refine zN 9 ?_;obtain ⟨p,hp⟩: ∃ p,ps[n]? =some p:=⟨_,List.getElem?_eq_getElem (by omega)⟩;have hpp:=hp1 _ _ hp;obtain ⟨y,hy,hyb⟩:=CS hpp (q:=q) (by omega);refine zN 3 ?_;refine vv (jd i) ?_;refine zQ ?_;refine vv (aj rfl rfl (ay Tryz.underlying36 rfl (Rd.RG (i:=14) (St.ord 1 mK rfl) (aZ (enc:=OX.cells) (sz:=18) (λ_=>rfl) hx rfl)))) ?_;refine zQ ?_;refine vv (v:= .pointer (some ⟨bA,oA+n*1,none⟩)) (aO rfl rfl rfl (dD n hBa Tryz.underlying36 sJ rfl (by omega))) ?_;refine vv (v:= .slice (some ⟨p.1,0,none⟩) 4 4) (aj rfl rfl (ay Tryz.underlying44 rfl (fJ Cj hBa mK (memT 2 rfl nQ) (aZ (enc:=fU) (sz:=1) (k:=n) (j:=0) (λ_=>rfl) hp rfl)))) ?_;refine zQ ?_;refine vv (jd q) ?_;refine vv (v:= .agg #[.int .i64 y.b.role,.int .i64 y.b.ep,.int .i64 y.b.fr,.int .i64 y.b.tg,.int .i64 y.b.rd,.slice y.A y.b.evs.length y.c]) (aj rfl rfl (aA (cs:=BX.cells y) Tryz.underlying43 rfl aB rfl (λj u hu=>by rw [Nat.add_assoc];exact fJ hpp.rd rfl mK (memT 2 rfl nQ) (aZ (enc:=BX.cells) (sz:=6) (k:=q) (λ_=>rfl) hy hu)))) ?_;refine fF mK fE ?_;intro uE Yy sD;refine stA 0 sD aB ?_;intro YD rJ;refine zN 4 ?_;by_cases hr:y.b.role=3
    ·have hsv:OD y.b=false:=Bool.eq_false_iff.2 λh=>by have:=FR.1 h;unfold serves at this;omega
     refine zN 7 ?_;have DN:=rJ.drew;refine fq 7 5 DN [] ?_;iterate 4 refine gM ?_
     refine gk (v:= .pointer (some ⟨b14,0+n*2,none⟩)) 4 rfl DN (λ_ _=>(aO rfl rfl rfl (dL n Tryz.underlying47 abQ rfl (by omega)))) ?_;refine dY (by kernel_rfl) rfl rfl rfl ?_;refine vv (v:= .pointer (some ⟨b14,0+n*2+q*1,none⟩)) (aO rfl rfl rfl (dL q Tryz.underlying46 lH rfl (by omega))) ?_;refine Co (cs:= #[.int .i64 y.b.ep]) (row':=FT (upd f2 (n*2+q) y.b.ep)) (fs':=(_::(.blk b14 (FT (upd f2 (n*2+q) y.b.ep)) 47)::_::(L9++[.own 57 11 (.slice A1 s.length c2) s.length ((s).flatMap Ac.cells),.rd 5 A gs.length ((gs).flatMap Gr.cells)]))) 1 DN (wn rfl) rfl rfl rfl rfl rfl rfl lH rfl (bX rfl) (show 0+n*2+q*1+1<=10 by omega) (abH (by omega) (by omega)) rfl ?_;intro w47 vH;refine zQ ?_;refine iP ?_;refine zQ ?_;have HV:=λw=>ji y w;rw [hsv] at HV;refine zQ ?_;have tV:=vH.drew;refine aF 12 tV [] ?_;refine bZ ?_;refine aW 1 ?_;refine iO 1 rfl x9 (HV _) ?_;rintro _ Yr ⟨rfl,afG⟩;refine ⟨_,rfl,?_⟩;have oq:=tV.on afG;refine aJ 12 ?_;refine zN 7 ?_;refine vv (v:= .int .i64 ((q+1:Nat):Int)) gD ?_;refine zN 2 ?_;have Fh:=oq.aS [0];refine aN (q+1,upd f2 (n*2+q) y.b.ep) ?_ ⟨rfl,rfl,rfl,rfl,rfl,rfl,rfl,trivial⟩ (by first | omega | (dsimp only;omega));exact ⟨(by omega),(QM.set BD (by omega) (by rw [<-hyb];exact hr) (by rw [<-hyb])),Fh⟩
    rcases hsv:OD y.b with _ | _
    ·refine zN 9 ?_;have HV:=λw=>ji y w;rw [hsv] at HV;refine zQ ?_;have pW:=rJ.drew;refine aF 12 pW [] ?_;refine bZ ?_;refine aW 1 ?_;refine iO 1 rfl x9 (HV _) ?_;rintro _ w59 ⟨rfl,akV⟩;refine ⟨_,rfl,?_⟩;have Qf:=pW.on akV;refine aJ 12 ?_;refine zN 7 ?_;refine vv (v:= .int .i64 ((q+1:Nat):Int)) gD ?_;refine zN 2 ?_;have S64:=Qf.aS [0];refine aN (q+1,f2) ?_ ⟨rfl,rfl,rfl,rfl,rfl,rfl,rfl,trivial⟩ (by first | omega | (dsimp only;omega));exact ⟨(by omega),BD,S64⟩
    have hle:f2 (n*2+q)<y.b.ep:=by rw [hyb];exact hse i n q (by omega) (by omega) (by rw [<-hyb];exact FR.1 hsv) f2 BD
    refine zN 9 ?_;have HV:=λw=>ji y w;rw [hsv] at HV;refine zQ ?_;have Di:=rJ.drew;refine aF 12 Di [] ?_;refine bZ ?_;refine aW 1 ?_;refine iO 1 rfl x9 (HV _) ?_;rintro _ w67 ⟨rfl,ayj⟩;refine ⟨_,rfl,?_⟩;have wJ:=Di.on ayj;refine aJ 6 ?_;refine jg (v:= .pointer (some ⟨b14,0+n*2,none⟩)) (i:=7) (n:=4) rfl (by kernel_rfl) (by kernel_rfl) (by kernel_rfl) wJ rfl (wg rfl rfl rfl rfl) rfl rfl (λ_ _=>(aO rfl rfl rfl (dL n Tryz.underlying47 abQ rfl (by omega)))) ?_;refine jg (v:= .pointer (some ⟨b14,0+n*2+q*1,none⟩)) (i:=8) (n:=3) rfl (by kernel_rfl) (by kernel_rfl) (by kernel_rfl) wJ rfl (wg rfl rfl rfl rfl) rfl rfl (λ_ _=>(aO rfl rfl rfl (dL q Tryz.underlying46 lH rfl (by omega)))) ?_;refine jg (v:= .int .i64 (f2 (n*2+q))) (i:=9) (n:=2) rfl (by kernel_rfl) (by kernel_rfl) (by kernel_rfl) wJ rfl (wg rfl rfl rfl rfl) rfl rfl (λ_ ayk=>(aj rfl rfl (ay Tryz.underlying3 rfl (St.cl 1 ayk rfl (abG (by omega) (by omega)))))) ?_;refine aJ 3 ?_;refine zN 7 ?_;refine vv (v:= .int .i64 ((q+1:Nat):Int)) gD ?_;refine zN 2 ?_;have zA:=wJ.aS [0];refine aN (q+1,f2) ?_ ⟨rfl,rfl,rfl,rfl,rfl,rfl,rfl,trivial⟩ (by first | omega | (dsimp only;omega));exact ⟨(by omega),BD,zA⟩
   refine zN 12 ?_;refine vv (v:= .int .i64 ((n+1:Nat):Int)) gD ?_;refine zN 2 ?_;refine aN (n+1,f2) ?_ ⟨rfl,rfl,rfl,rfl,rfl,rfl,trivial⟩ (by first | omega | (dsimp only;omega));exact ⟨(by omega),BD,mK⟩
  refine zN 12 ?_;refine vv (v:= .int .i64 ((i+1:Nat):Int)) gD ?_;refine zN 2 ?_;refine aN (i+1,f1) ?_ ⟨rfl,rfl,rfl,rfl,rfl,trivial⟩ (by first | omega | (dsimp only;omega));exact ⟨(by omega),alb,lV⟩
 refine zN 17 ?_;exact ⟨rfl,iL.low⟩
theorem abI {gs:List Gr} {s:List Ac} (hs:s=aY gs 60 true): ∀ i n q,n<5->q<2->serves (((dZ.run (s.take i)).ah n).view q)-> ∀ f,QM s (i+1) f->f (n*2+q)< (((dZ.run (s.take i)).ah n).view q).ep:=by
 subst hs;intro i n q hn hq hs f hf
 rcases hf n q hn hq with h | ⟨j,h1,h2,h3⟩
 ·rw [h];exact aiI (by decide) hn hq hs
 rw [<-h3];exact abF (by decide) (by omega) hn hq h2 hs
theorem LK (W:World) (hu:Uk W.heap.size W) (args:Array Value) (h:dI (H7 Tryz.prog W) args.toList Tryz.f4.params.toList):
  Calls Tryz.prog 4 args W λe W'=>e= .returned (.bool true)/\Below W.heap.size W W':=by
 rw [Tryz.params4] at h;obtain ⟨v,l1,hv,h1,h0⟩:=dI.uf h;have h4:=dI.uh h0;subst h4;obtain rfl:args= #[v]:=by cases args;simp_all
 obtain ⟨A,c,gs,rfl,hr,hg⟩:=BK h1;exact QN rfl hg (sI _ _ _) (by have:=xP gs 60 true;omega) hu hr (abI rfl)
end Go.Proofs.YthhnonpehllibaaGreatDoor
