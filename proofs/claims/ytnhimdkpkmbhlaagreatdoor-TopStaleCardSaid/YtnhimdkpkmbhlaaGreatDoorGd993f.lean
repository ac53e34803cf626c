import Derived.Test.YtnhimdkpkmbhlaaGreatDoorG97bd6
set_option maxRecDepth 100000
set_option maxHeartbeats 8000000
set_option linter.unusedSimpArgs false
set_option linter.unusedVariables false
namespace Go.Proofs.YtnhimdkpkmbhlaaGreatDoor
open ChangeShapes WideShapes RowKit
section
variable {Q Q2 Q3 y:Qd} {l:List dI} {i j k:Nat} {a b:dI} {e:Ev}
theorem af5: ∀ (l:List dI) (Q:Qd),rp Q l=some y->AO Q y
 | [],Q,h=>by
  obtain rfl:Q=y:=Option.some.inj h;exact AO.refl
 | s::l,Q,h=>by
  rw [rp] at h
  split at h
  ·rename_i hc
   have h2:=af5 l _ h;rw [(Kr hc.1).2.2] at h2;exact LP.1.trans h2
  cases h
theorem aib (hk:e.kind=3) (h: ¬ e.aG=Q.ep):(stepM Q e).2.1.code=11:=by
 unfold stepM;rw [if_neg (by omega),if_neg (by omega),if_pos hk,za,if_pos h];rfl
theorem aec (hk:e.kind=1\/e.kind=2\/e.kind=3):(stepM Q e).1.ep=Q.ep:=by
 unfold stepM
 rcases hk with hk | hk | hk
 ·rw [if_pos hk];unfold yt
  split; · rfl
  split; · rfl
  split; · rfl
  rfl
 ·rw [if_neg (by omega),if_pos hk];unfold pz
  split; · rfl
  split; · rfl
  rfl
 rw [if_neg (by omega),if_neg (by omega),if_pos hk];unfold za
 split; · rfl
 split; · rfl
 rfl
theorem aic (hk:e.kind=4) (h: ¬ Q.ep=1048576):(stepM Q e).1.ep=Q.ep+1:=by
 unfold stepM;rw [if_neg (by omega),if_neg (by omega),if_neg (by omega),Dn,if_neg h]
theorem aie (h:rp bT l=some y) (hy:y.ep<=540) (ha:l[k]? =some a):(0<=(GN l k).ep/\(GN l k).ep<=1000000)/\(a.op.kind=4->(GN l (k+1)).ep=(GN l k).ep+1)/\(¬ a.op.kind=4->(GN l (k+1)).ep=(GN l k).ep)/\(a.op.kind=3-> ¬ a.op.aG=(GN l k).ep->a.ans.code=11)/\(a.op.kind=2->a.ans.code=0->a.ans.dK=(GN l k).ep):=by
 obtain ⟨_,h2,h3,h4⟩:=FW h ha;have hk:=(List.getElem?_eq_some_iff.1 ha).1;have l1:=af5 _ _ (XE h k (by omega));have l2:=RI h 0 k (by omega);rw [Nat.zero_add,show GN l 0=bT from rfl] at l2;have z:bT.ep=0:=rfl;unfold AO at l1 l2;have hkd:=aaI h2;refine ⟨by omega,λe=>?_,λe=>?_,λe e2=>?_,λe e2=>?_⟩
 ·rw [h3];exact aic e (by omega)
 ·rw [h3];exact aec (by omega)
 ·rw [h4];exact aib e e2
 rw [h4] at e2⊢;exact (LQ e e2).1
end
theorem WQ {gs:List Gr} {s F:List Ac} {A:Option Addr} {c:Nat} {w:World} (hs:s=bG gs 120 true) (hF:F=jv s 40) (hg: ∀ g∈gs,g.ok) (h0: ∀ a∈F,bV a=0) (hsl:s.length<=1000) (XG:F.length<=1000) (AP:(iX.run F).aP.length<=1000000000) (hu:Uk w.heap.size w) (h:Rd w w.heap.size 5 A gs.length (gs.flatMap Gr.cells)) (hst: ∀ q,q<2-> ∃ br:Nat->Int,br 0=0/\ ∀ k a,(oN q (iX.run F).aP)[k]? =some a->(0<=br k/\br k<=1000000)/\(a.op.kind=4->br (k+1)=br k+1)/\(¬ a.op.kind=4->br (k+1)=br k)/\(a.op.kind=3-> ¬ a.op.aG=br k->a.ans.code=11)/\(a.op.kind=2->a.ans.code=0->a.ans.dK=br k)):
    Calls Tryz.prog 5 #[.slice A gs.length c] w (λe w'=>e= .returned (.bool true)/\Below w.heap.size w w'):=by
 have S:=(St.start w).bU h;refine gq 82 Tryz.func5 ?_;refine cw [0] ?_;refine zN 8 ?_;refine dz TA (tN (m:=120) hs (by decide) hg _ ((St.rd 0 S rfl))) ?_;rintro _ w3 ⟨A1,c2,rfl,T5⟩;refine ⟨_,rfl,?_⟩;have S4:=S.ext T5 rfl;refine zN 6 ?_;refine dz XM (GL (r:=40) hF (by decide) hsl _ ((St.ord 0 S4 rfl))) ?_;rintro _ w8 ⟨A6,c7,rfl,Oy⟩;refine ⟨_,rfl,?_⟩;have S9:=S4.ext Oy rfl;change St _ _ _ [.own 69 11 (.slice A6 F.length c7) F.length ((F).flatMap Ac.cells),_,_] at S9;refine dz PS (Ol h0 XG S9 hu (Ro.own (List.mem_of_getElem? (i:=0) rfl))) ?_;rintro _ Cc ⟨x,ru,rfl,Iz,kE⟩;refine ⟨_,rfl,?_⟩;have hX:=Iz;have D6: ∀ f∈ru,f∈(ru++[.own 69 11 (.slice A6 F.length c7) F.length ((F).flatMap Ac.cells),.own 69 11 (.slice A1 s.length c2) s.length ((s).flatMap Ac.cells),.rd 5 A gs.length ((gs).flatMap Gr.cells)]):=λf h=>List.mem_append_left _ h;refine zN 3 ?_;refine fJ kE Fb ?_;intro b15 w16 jM;refine stA 0 jM sH ?_;intro DK jU;refine zN 10 ?_;refine cZ (X:=Nat) (λxv=>[(2,.bool false),(4,.pointer (some ⟨b15,0,none⟩)),(5,.bool true),(6,.int .i64 ((xv:Nat):Int))]) (λxv wr=>(xv<=2)/\St w.heap.size w wr ((.blk b15 #[.int .i64 ((x.fl:Nat):Int),.bool (x.U 0),.bool (x.U 1),.bool (x.U 2),.bool (x.U 3),.bool (x.U 4),.int .i64 x.d.p0.node,.int .i64 x.d.p0.epoch,.int .i64 x.d.p1.node,.int .i64 x.d.p1.epoch,.int .i64 x.d.p2.node,.int .i64 x.d.p2.epoch,.int .i64 x.d.p3.node,.int .i64 x.d.p3.epoch,.slice x.BA 5 x.bc,.slice x.sA x.sn x.sc,.slice x.tA x.tn x.tc,.int .i64 ((x.calls:Nat):Int)] 35)::(ru++[.own 69 11 (.slice A6 F.length c7) F.length ((F).flatMap Ac.cells),.own 69 11 (.slice A1 s.length c2) s.length ((s).flatMap Ac.cells),.rd 5 A gs.length ((gs).flatMap Gr.cells)]))) (λxv=>2-xv) (0) ?_ ?_ ?_
 ·exact ⟨Nat.zero_le _,jU⟩
 ·exact ⟨rfl,rfl,rfl,rfl,trivial⟩
 rintro q Ou ⟨hi22,lH⟩
 try dsimp only at hi22 lH
 refine bq (l':=[(2,.bool false),(4,.pointer (some ⟨b15,0,none⟩)),(5,.bool true),(6,.int .i64 ((q:Nat):Int))]) ⟨rfl,rfl,rfl,rfl,trivial⟩ (aH (aH (aC (vm ?_))));by_cases h23:((q:Nat):Int)<2
 ·refine zN 15 ?_;obtain ⟨sv,hsv⟩: ∃ l,oN q (iX.run F).aP=l:=⟨_,rfl⟩;refine dz abC (Tk hsv (hX.aP.rd lH (memT 1 rfl D6)) (by rw [hX.sn];exact AP)) ?_;rintro _ KD ⟨Dg,EN,rfl,T28⟩;refine ⟨_,rfl,?_⟩;have pE:=lH.ext T28 rfl;change St _ _ _ ((.own 60 14 (.slice Dg sv.length EN) sv.length ((sv).flatMap dI.cells))::_::(ru++[.own 69 11 (.slice A6 F.length c7) F.length ((F).flatMap Ac.cells),.own 69 11 (.slice A1 s.length c2) s.length ((s).flatMap Ac.cells),.rd 5 A gs.length ((gs).flatMap Gr.cells)])) at pE;refine zN 4 ?_;have hsl2:sv.length<=1000000000:=by rw [<-hsv];exact Nat.le_trans (List.length_filter_le _ _) AP
  obtain ⟨br,hb0,hbr⟩:=hst q (by omega);rw [hsv] at hbr;refine zN 10 ?_;refine cZ (X:=Nat×Int) (λxv=>[(2,.bool false),(4,.pointer (some ⟨b15,0,none⟩)),(5,.bool true),(6,.int .i64 ((q:Nat):Int)),(7,.slice Dg sv.length EN),(8,.int .i64 xv.2),(9,.int .i64 ((xv.1:Nat):Int))]) (λxv wr=>(xv.1<=sv.length)/\(xv.2=br xv.1)/\St w.heap.size w wr ((.own 60 14 (.slice Dg sv.length EN) sv.length ((sv).flatMap dI.cells))::(.blk b15 #[.int .i64 ((x.fl:Nat):Int),.bool (x.U 0),.bool (x.U 1),.bool (x.U 2),.bool (x.U 3),.bool (x.U 4),.int .i64 x.d.p0.node,.int .i64 x.d.p0.epoch,.int .i64 x.d.p1.node,.int .i64 x.d.p1.epoch,.int .i64 x.d.p2.node,.int .i64 x.d.p2.epoch,.int .i64 x.d.p3.node,.int .i64 x.d.p3.epoch,.slice x.BA 5 x.bc,.slice x.sA x.sn x.sc,.slice x.tA x.tn x.tc,.int .i64 ((x.calls:Nat):Int)] 35)::(ru++[.own 69 11 (.slice A6 F.length c7) F.length ((F).flatMap Ac.cells),.own 69 11 (.slice A1 s.length c2) s.length ((s).flatMap Ac.cells),.rd 5 A gs.length ((gs).flatMap Gr.cells)]))) (λxv=>sv.length-xv.1) (0,0) ?_ ?_ ?_
  ·exact ⟨Nat.zero_le _,hb0.symm,pE⟩
  ·exact ⟨rfl,rfl,rfl,rfl,rfl,rfl,rfl,trivial⟩
  rintro ⟨k,b⟩ Uy ⟨Iu,Fh,oz⟩
  try dsimp only at Iu Fh oz
  refine bq (l':=[(2,.bool false),(4,.pointer (some ⟨b15,0,none⟩)),(5,.bool true),(6,.int .i64 ((q:Nat):Int)),(7,.slice Dg sv.length EN),(8,.int .i64 b),(9,.int .i64 ((k:Nat):Int))]) ⟨rfl,rfl,rfl,rfl,rfl,rfl,rfl,trivial⟩ (aH (aH (aC (vm ?_))));refine zN 2 ?_;by_cases h33:((k:Nat):Int)< ((sv.length:Nat):Int)
  ·refine zN 12 ?_;obtain ⟨b34,o35,rfl⟩:=Rd.addr (St.ord 0 oz rfl) (by omega);obtain ⟨Cb,abP⟩:=zL k (St.ord 0 oz rfl) (by omega);refine vv (v:= .pointer (some ⟨b34,o35+k*14,none⟩)) (aJ rfl rfl rfl (cB k Tryz.underlying32 iN (by omega) (by omega))) ?_;refine vv (aj rfl rfl (aA (cs:=dI.cells Cb) Tryz.underlying60 rfl iN rfl (Rd.uW (St.ord 0 oz rfl) (λ_ _ h=>aX (enc:=dI.cells) (sz:=14) (λ_=>rfl) abP h)))) ?_;refine je (V:=λb=> .pointer (some ⟨b,0,none⟩)) (row:= #[.int .i64 0,.int .i64 0,.int .i64 0,.int .i64 0,.int .i64 0,.int .i64 0,.int .i64 0,.int .i64 0,.int .i64 0,.int .i64 0,.int .i64 0,.int .i64 0,.int .i64 0,.int .i64 0]) (t:=60) oz (wn rfl) rfl rfl (dZ rfl (Tryz.zeroValue60 _) rfl) ?_;intro b38 w39 uD;refine stA 0 uD iN ?_;intro w41 qV;refine zN 4 ?_;obtain ⟨hl0,hl1,hl2,hl3,hl4⟩:=hbr k Cb abP;refine aC (vv (fO 3 iL) ?_);refine zN 2 ?_;by_cases h43:Cb.op.kind=4
   ·refine zN 6 ?_;refine vv (v:= .int .i64 (b+1)) gu ?_;refine zN 2 ?_;refine KA (vv (fO 3 iL) ?_);refine zN 18 ?_;refine vM (vv (fO 3 iL) ?_);refine zN 25 ?_;refine vv (v:= .int .i64 ((k+1:Nat):Int)) gu ?_;refine zN 2 ?_;have DV:=qV.aU [0];refine aM (k+1,b+1) ?_ ⟨rfl,rfl,rfl,rfl,rfl,rfl,rfl,trivial⟩ (by first | omega | (dsimp only;omega));exact ⟨(by dsimp only;omega),(by dsimp only;have:=hl1 h43;omega),DV⟩
   refine zN 2 ?_;refine PV (vv (fO 3 iL) ?_);refine zN 2 ?_;by_cases h45:Cb.op.kind=3
   ·refine zN 2 ?_;refine vg (fO 3 iL) ?_;refine zN 4 ?_;by_cases h46:Cb.op.aG=b
    ·refine zN 9 ?_;refine vM (vv (fO 3 iL) ?_);refine zN 25 ?_;refine vv (v:= .int .i64 ((k+1:Nat):Int)) gu ?_;refine zN 2 ?_;have wW:=qV.aU [0];refine aM (k+1,b) ?_ ⟨rfl,rfl,rfl,rfl,rfl,rfl,rfl,trivial⟩ (by first | omega | (dsimp only;omega));exact ⟨(by dsimp only;omega),(by dsimp only;have:=hl2 h43;omega),wW⟩
    refine zN 3 ?_;refine vg (fO 9 oq) ?_;refine vg (fO 9 uP) ?_;refine vg (aj rfl rfl (av Tryz.underlying56 rfl (St.cl 0 qV rfl rfl))) ?_;have hcd:=hl3 h45 (by omega);refine zN 3 ?_;refine vM (vv (fO 3 iL) ?_);refine zN 25 ?_;refine vv (v:= .int .i64 ((k+1:Nat):Int)) gu ?_;refine zN 2 ?_;have rJ:=qV.aU [0];refine aM (k+1,b) ?_ ⟨rfl,rfl,rfl,rfl,rfl,rfl,rfl,trivial⟩ (by first | omega | (dsimp only;omega));exact ⟨(by dsimp only;omega),(by dsimp only;have:=hl2 h43;omega),rJ⟩
   refine zN 16 ?_;refine vM (vv (fO 3 iL) ?_);refine zN 2 ?_;by_cases h49:Cb.op.kind=2
   ·refine zN 2 ?_;refine vg (fO 9 oq) ?_;refine vg (fO 9 uP) ?_;refine vg (aj rfl rfl (av Tryz.underlying56 rfl (St.cl 0 qV rfl rfl))) ?_;by_cases h50:Cb.ans.code=0
    ·refine zN 3 ?_;refine vg (fO 9 oq) ?_;refine vg (fO 10 WW) ?_;refine zN 3 ?_;have hcd:=hl4 h49 h50;refine zN 10 ?_;refine vv (v:= .int .i64 ((k+1:Nat):Int)) gu ?_;refine zN 2 ?_;have uq:=qV.aU [0];refine aM (k+1,b) ?_ ⟨rfl,rfl,rfl,rfl,rfl,rfl,rfl,trivial⟩ (by first | omega | (dsimp only;omega));exact ⟨(by dsimp only;omega),(by dsimp only;have:=hl2 h43;omega),uq⟩
    refine zN 18 ?_;refine vv (v:= .int .i64 ((k+1:Nat):Int)) gu ?_;refine zN 2 ?_;have kS:=qV.aU [0];refine aM (k+1,b) ?_ ⟨rfl,rfl,rfl,rfl,rfl,rfl,rfl,trivial⟩ (by first | omega | (dsimp only;omega));exact ⟨(by dsimp only;omega),(by dsimp only;have:=hl2 h43;omega),kS⟩
   refine zN 23 ?_;refine vv (v:= .int .i64 ((k+1:Nat):Int)) gu ?_;refine zN 2 ?_;have vS:=qV.aU [0];refine aM (k+1,b) ?_ ⟨rfl,rfl,rfl,rfl,rfl,rfl,rfl,trivial⟩ (by first | omega | (dsimp only;omega));exact ⟨(by dsimp only;omega),(by dsimp only;have:=hl2 h43;omega),vS⟩
  refine zN 12 ?_;refine vv (v:= .int .i64 ((q+1:Nat):Int)) gu ?_;refine zN 2 ?_;have mh:=oz.aU [0];refine aM (q+1) ?_ ⟨rfl,rfl,rfl,rfl,trivial⟩ (by first | omega | (dsimp only;omega));exact ⟨(by omega),mh⟩
 refine zN 20 ?_;exact ⟨rfl,lH.low⟩
theorem O1 (W:World) (hu:Uk W.heap.size W) (args:Array Value) (h:dD (zG Tryz.prog W) args.toList Tryz.f5.params.toList):
  Calls Tryz.prog 5 args W λe W'=>e= .returned (.bool true)/\Below W.heap.size W W':=by
 rw [Tryz.params5] at h;obtain ⟨v,l1,hv,h1,h0⟩:=dD.p8 h;have h4:=dD.rC h0;subst h4;obtain rfl:args= #[v]:=by cases args;simp_all
 obtain ⟨A,c,gs,rfl,hr,hg⟩:=rX h1;exact WQ rfl rfl hg (pW gs 120 true 40) (by have:=nS gs 120 true;omega) (by have:=yP gs 120 true 40;omega) (Bh gs true (by decide)) hu hr (λq hq=>by obtain ⟨y,h1,h2⟩:=Kt (gs:=gs) (cr:=true) (m:=120) (r:=40) (by decide) hq;exact ⟨λk=>(GN _ k).ep,rfl,λk a ha=>aie h1 h2 ha⟩)
end Go.Proofs.YtnhimdkpkmbhlaaGreatDoor
