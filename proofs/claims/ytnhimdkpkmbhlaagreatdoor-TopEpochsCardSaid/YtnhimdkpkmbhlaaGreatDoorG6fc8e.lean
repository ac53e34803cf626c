import Derived.Test.YtnhimdkpkmbhlaaGreatDoorG16ae5
import Derived.Test.YtnhimdkpkmbhlaaGreatDoorG97bd6
set_option maxRecDepth 100000
set_option maxHeartbeats 8000000
set_option linter.unusedSimpArgs false
set_option linter.unusedVariables false
namespace Go.Proofs.YtnhimdkpkmbhlaaGreatDoor
open ChangeShapes WideShapes RowKit
section
variable {m:Cl} {q k i:Nat} {g:Gh} {a b:dI}
theorem LW.aia (h:LW m q g k) (ha:(yS m q)[i]? =some a) (hb:(yS m q)[i+1]? =some b):(b.ep=a.ep/\b.nd=a.nd)\/(b.ep=a.ep+1/\b.op=aS/\b.nd≠a.nd):=by
 have I:=h.qi;obtain ⟨ka,a1,a2,a3,a4⟩:=I.svs.each a (List.mem_of_getElem? ha);obtain ⟨kb,b1,b2,b3,b4⟩:=I.svs.each b (List.mem_of_getElem? hb);have ht:g.t<=g.m:=by rcases I.Jo with ⟨h,_⟩ | ⟨h,_⟩<;>omega
 rcases I.svs.two i a b ha hb with h1 | ⟨h1,h2⟩
 ·obtain rfl:ka=kb:=by omega
  exact .inl ⟨h1,by rw [a4,b4]⟩
 obtain rfl:kb=ka+1:=by omega
 refine .inr ⟨h1,h2,λe=>?_⟩;rw [a4,b4] at e;exact I.adj ka a2 (by omega) (by omega)
end
section
variable {gs:List Gr} {m r q:Nat} {cr:Bool}
theorem aeb (h:m+6*r<=520) {k:Nat} {a b:dI} (hq:q<2) (ha:(oN q (iX.run (jv (bG gs m cr) r)).aP)[k]? =some a) (hb:(oN q (iX.run (jv (bG gs m cr) r)).aP)[k+1]? =some b):0<=a.ep/\a.ep<=1048576/\((b.ep=a.ep/\b.nd=a.nd)\/(b.ep=a.ep+1/\b.op=aS/\b.nd≠a.nd)):=by
 obtain ⟨g,k',h1,_⟩:=Vt (gs:=gs) (cr:=cr) h hq;have h2:=h1.aia ha hb;have I:=h1.qi;obtain ⟨ka,a1,a2,a3,_⟩:=I.svs.each a (List.mem_of_getElem? ha);have ht:g.t<=g.m:=by rcases I.Jo with ⟨h,_⟩ | ⟨h,_⟩<;>omega
 have B:=(RH gs h cr).lJ g.o I.o5;have hf:au (((iX.run (jv (bG gs m cr) r)).ah g.o).view q)=0:=by
  cases hu:((iX.run (jv (bG gs m cr) r)).ah g.o).up with
  | true=>obtain ⟨rs,us,hU⟩:=B.Ii hu;rw [gD hu];exact hU.mO q (by omega)
  | false=>rw [show ((iX.run (jv (bG gs m cr) r)).ah g.o).view=_ from if_neg (by rw [hu];decide)];exact B.JF.2.1 q (by omega)
 have hs:=fQ hf;have ha:=I.Df;unfold vw at ha;unfold bF at hs;exact ⟨by omega,by omega,h2⟩
end
theorem Vw {P:Program} {t:TypeId} {xo yo:Operand} {w:World} {b:Bool} (hg:P.eqGuardType P.depth t=false) (hu:P.underlying t=some .bool):(do eqGuard .neq t xo yo (.bool b) (.bool b);binOp .neq t (.bool b) (.bool b):Sem Value).run P w= .ok (.bool false) w:=by
 cases b<;>simp [binOp,eqGuard,hg,Op.equal,Op.maxDepth,run_equalIn_bool w _ t _ _ hu,Result.andThen]
theorem Tt {gs:List Gr} {s F:List Ac} {A:Option Addr} {c:Nat} {w:World} (hs:s=bG gs 120 true) (hF:F=jv s 60) (hg: ∀ g∈gs,g.ok) (h0: ∀ a∈F,bV a=0) (hsl:s.length<=1000) (XG:F.length<=1000) (AP:(iX.run F).aP.length<=1000000000) (hu:Uk w.heap.size w) (h:Rd w w.heap.size 5 A gs.length (gs.flatMap Gr.cells)) (hsn: ∀ q k a b,q<2->(oN q (iX.run F).aP)[k]? =some a->(oN q (iX.run F).aP)[k+1]? =some b->0<=a.ep/\a.ep<=1048576/\((b.ep=a.ep/\b.nd=a.nd)\/(b.ep=a.ep+1/\b.op=aS/\b.nd≠a.nd))):
    Calls Tryz.prog 7 #[.slice A gs.length c] w (λe w'=>e= .returned (.bool true)/\Below w.heap.size w w'):=by
 have S:=(St.start w).bU h;refine gq 90 Tryz.func7 ?_;refine cw [0] ?_;refine zN 8 ?_;refine dz TA (tN (m:=120) hs (by decide) hg _ ((St.rd 0 S rfl))) ?_;rintro _ w3 ⟨A1,c2,rfl,T5⟩;refine ⟨_,rfl,?_⟩;have S4:=S.ext T5 rfl;refine zN 6 ?_;refine dz XM (GL (r:=60) hF (by decide) hsl _ ((St.ord 0 S4 rfl))) ?_;rintro _ w8 ⟨A6,c7,rfl,Oy⟩;refine ⟨_,rfl,?_⟩;have S9:=S4.ext Oy rfl;change St _ _ _ [.own 69 11 (.slice A6 F.length c7) F.length ((F).flatMap Ac.cells),_,_] at S9;refine dz PS (Ol h0 XG S9 hu (Ro.own (List.mem_of_getElem? (i:=0) rfl))) ?_;rintro _ Cc ⟨x,ru,rfl,Iz,kE⟩;refine ⟨_,rfl,?_⟩;have hX:=Iz;have D6: ∀ f∈ru,f∈(ru++[.own 69 11 (.slice A6 F.length c7) F.length ((F).flatMap Ac.cells),.own 69 11 (.slice A1 s.length c2) s.length ((s).flatMap Ac.cells),.rd 5 A gs.length ((gs).flatMap Gr.cells)]):=λf h=>List.mem_append_left _ h;refine zN 3 ?_;refine fJ kE Fb ?_;intro b15 w16 jM;refine stA 0 jM sH ?_;intro DK jU;refine zN 10 ?_;refine cZ (X:=Nat) (λxv=>[(2,.bool false),(4,.pointer (some ⟨b15,0,none⟩)),(5,.bool true),(6,.int .i64 ((xv:Nat):Int))]) (λxv wr=>(xv<=2)/\St w.heap.size w wr ((.blk b15 #[.int .i64 ((x.fl:Nat):Int),.bool (x.U 0),.bool (x.U 1),.bool (x.U 2),.bool (x.U 3),.bool (x.U 4),.int .i64 x.d.p0.node,.int .i64 x.d.p0.epoch,.int .i64 x.d.p1.node,.int .i64 x.d.p1.epoch,.int .i64 x.d.p2.node,.int .i64 x.d.p2.epoch,.int .i64 x.d.p3.node,.int .i64 x.d.p3.epoch,.slice x.BA 5 x.bc,.slice x.sA x.sn x.sc,.slice x.tA x.tn x.tc,.int .i64 ((x.calls:Nat):Int)] 35)::(ru++[.own 69 11 (.slice A6 F.length c7) F.length ((F).flatMap Ac.cells),.own 69 11 (.slice A1 s.length c2) s.length ((s).flatMap Ac.cells),.rd 5 A gs.length ((gs).flatMap Gr.cells)]))) (λxv=>2-xv) (0) ?_ ?_ ?_
 ·exact ⟨Nat.zero_le _,jU⟩
 ·exact ⟨rfl,rfl,rfl,rfl,trivial⟩
 rintro q Ou ⟨hi22,lH⟩
 try dsimp only at hi22 lH
 refine bq (l':=[(2,.bool false),(4,.pointer (some ⟨b15,0,none⟩)),(5,.bool true),(6,.int .i64 ((q:Nat):Int))]) ⟨rfl,rfl,rfl,rfl,trivial⟩ (aH (aH (aC (vm ?_))));by_cases h23:((q:Nat):Int)<2
 ·refine zN 15 ?_;obtain ⟨sv,hsv⟩: ∃ l,oN q (iX.run F).aP=l:=⟨_,rfl⟩;refine dz abC (Tk hsv (hX.aP.rd lH (memT 1 rfl D6)) (by rw [hX.sn];exact AP)) ?_;rintro _ KD ⟨Dg,EN,rfl,T28⟩;refine ⟨_,rfl,?_⟩;have pE:=lH.ext T28 rfl;change St _ _ _ ((.own 60 14 (.slice Dg sv.length EN) sv.length ((sv).flatMap dI.cells))::_::(ru++[.own 69 11 (.slice A6 F.length c7) F.length ((F).flatMap Ac.cells),.own 69 11 (.slice A1 s.length c2) s.length ((s).flatMap Ac.cells),.rd 5 A gs.length ((gs).flatMap Gr.cells)])) at pE;refine zN 9 ?_;refine cZ (X:=Nat) (λxv=>[(2,.bool false),(4,.pointer (some ⟨b15,0,none⟩)),(5,.bool true),(6,.int .i64 ((q:Nat):Int)),(7,.slice Dg sv.length EN),(8,.int .i64 ((xv+1:Nat):Int))]) (λxv wr=>(xv<=sv.length)/\St w.heap.size w wr ((.own 60 14 (.slice Dg sv.length EN) sv.length ((sv).flatMap dI.cells))::(.blk b15 #[.int .i64 ((x.fl:Nat):Int),.bool (x.U 0),.bool (x.U 1),.bool (x.U 2),.bool (x.U 3),.bool (x.U 4),.int .i64 x.d.p0.node,.int .i64 x.d.p0.epoch,.int .i64 x.d.p1.node,.int .i64 x.d.p1.epoch,.int .i64 x.d.p2.node,.int .i64 x.d.p2.epoch,.int .i64 x.d.p3.node,.int .i64 x.d.p3.epoch,.slice x.BA 5 x.bc,.slice x.sA x.sn x.sc,.slice x.tA x.tn x.tc,.int .i64 ((x.calls:Nat):Int)] 35)::(ru++[.own 69 11 (.slice A6 F.length c7) F.length ((F).flatMap Ac.cells),.own 69 11 (.slice A1 s.length c2) s.length ((s).flatMap Ac.cells),.rd 5 A gs.length ((gs).flatMap Gr.cells)]))) (λxv=>sv.length-xv) (0) ?_ ?_ ?_
  ·exact ⟨Nat.zero_le _,pE⟩
  ·exact ⟨rfl,rfl,rfl,rfl,rfl,rfl,trivial⟩
  rintro k Uy ⟨Iu,oz⟩
  try dsimp only at Iu oz
  refine bq (l':=[(2,.bool false),(4,.pointer (some ⟨b15,0,none⟩)),(5,.bool true),(6,.int .i64 ((q:Nat):Int)),(7,.slice Dg sv.length EN),(8,.int .i64 ((k+1:Nat):Int))]) ⟨rfl,rfl,rfl,rfl,rfl,rfl,trivial⟩ (aH (aH ?_));have hsl2:sv.length<=1000000000:=by rw [<-hsv];exact Nat.le_trans (List.length_filter_le _ _) AP
  refine zN 4 ?_;by_cases h32:((k+1:Nat):Int)< ((sv.length:Nat):Int)
  ·refine zN 12 ?_;refine vv (v:= .int .i64 ((k:Nat):Int)) ysu ?_;obtain ⟨b33,o34,rfl⟩:=Rd.addr (St.ord 0 oz rfl) (by omega);obtain ⟨x35,avG⟩:=zL k (St.ord 0 oz rfl) (by omega);refine vv (v:= .pointer (some ⟨b33,o34+k*14,none⟩)) (aJ rfl rfl rfl (cB k Tryz.underlying32 iN (by omega) (by omega))) ?_;refine vv (aj rfl rfl (aA (cs:=dI.cells x35) Tryz.underlying60 rfl iN rfl (Rd.uW (St.ord 0 oz rfl) (λ_ _ h=>aX (enc:=dI.cells) (sz:=14) (λ_=>rfl) avG h)))) ?_;refine je (V:=λb=> .pointer (some ⟨b,0,none⟩)) (row:= #[.int .i64 0,.int .i64 0,.int .i64 0,.int .i64 0,.int .i64 0,.int .i64 0,.int .i64 0,.int .i64 0,.int .i64 0,.int .i64 0,.int .i64 0,.int .i64 0,.int .i64 0,.int .i64 0]) (t:=60) oz (wn rfl) rfl rfl (dZ rfl (Tryz.zeroValue60 _) rfl) ?_;intro pI w38 Ai;refine stA 0 Ai iN ?_;intro w40 Db;refine zN 6 ?_;obtain ⟨x42,avH⟩:=zL (k+1) (St.ord 1 Db rfl) (by omega);refine vv (v:= .pointer (some ⟨b33,o34+(k+1)*14,none⟩)) (aJ rfl rfl rfl (cB (k+1) Tryz.underlying32 iN (by omega) (by omega))) ?_;refine vv (aj rfl rfl (aA (cs:=dI.cells x42) Tryz.underlying60 rfl iN rfl (Rd.uW (St.ord 1 Db rfl) (λ_ _ h=>aX (enc:=dI.cells) (sz:=14) (λ_=>rfl) avH h)))) ?_;refine je (V:=λb=> .pointer (some ⟨b,0,none⟩)) (row:= #[.int .i64 0,.int .i64 0,.int .i64 0,.int .i64 0,.int .i64 0,.int .i64 0,.int .i64 0,.int .i64 0,.int .i64 0,.int .i64 0,.int .i64 0,.int .i64 0,.int .i64 0,.int .i64 0]) (t:=60) Db (wn rfl) rfl rfl (dZ rfl (Tryz.zeroValue60 _) rfl) ?_;intro b44 w45 qW;refine stA 0 qW iN ?_;intro w47 rJ;refine zN 4 ?_;obtain ⟨he0,he1,hlw⟩:=hsn q k x35 x42 (by omega) (by rw [hsv];exact avG) (by rw [hsv];exact avH)
   rcases hlw with ⟨hle,hln⟩ | ⟨hle,hlo,hln⟩
   ·refine aC (vv (fO 2 pY) ?_);refine zQ ?_;refine vv (fO 2 pY) ?_;refine zN 3 ?_;refine vg (fO 2 pY) ?_;refine zQ ?_;refine vg (fO 2 pY) ?_;refine zN 2 ?_;refine vg (fO 0 Kz) ?_;refine zQ ?_;refine vg (fO 0 Kz) ?_;refine zN 2 ?_;refine vg (v:= .bool false) (aR rfl rfl rfl (Vw (by kernel_rfl) Tryz.underlying4)) ?_;refine zN 10 ?_;refine vM (vv (fO 2 pY) ?_);refine zQ ?_;refine vv (fO 2 pY) ?_;refine zN 24 ?_;refine vv (v:= .int .i64 (((k+1)+1:Nat):Int)) gu ?_;refine zN 2 ?_;have uz:=rJ.aU [1,0];refine aM (k+1) ?_ ⟨rfl,rfl,rfl,rfl,rfl,rfl,trivial⟩ (by first | omega | (dsimp only;omega));exact ⟨(by omega),uz⟩
   have hlk:x42.op.kind=4:=by rw [hlo];rfl
   refine aC (vv (fO 2 pY) ?_);refine zQ ?_;refine vv (fO 2 pY) ?_;refine zN 3 ?_;refine vg (fO 2 pY) ?_;refine zQ ?_;refine vg (fO 2 pY) ?_;refine zN 2 ?_;refine vg (fO 0 Kz) ?_;refine zQ ?_;refine vg (fO 0 Kz) ?_;refine zN 2 ?_;refine vg (v:= .bool false) (aR rfl rfl rfl (Vw (by kernel_rfl) Tryz.underlying4)) ?_;refine zN 10 ?_;refine vM (vv (fO 2 pY) ?_);refine zQ ?_;refine vv (fO 2 pY) ?_;refine zN 3 ?_;refine vg (fO 3 iL) ?_;refine zN 4 ?_;refine vg (fO 2 pY) ?_;refine zQ ?_;refine vg (fO 2 pY) ?_;refine zQ ?_;refine vg (v:= .int .i64 (x35.ep+1)) gu ?_;refine zN 11 ?_;refine vv (v:= .int .i64 (((k+1)+1:Nat):Int)) gu ?_;refine zN 2 ?_;have rM:=rJ.aU [1,0];refine aM (k+1) ?_ ⟨rfl,rfl,rfl,rfl,rfl,rfl,trivial⟩ (by first | omega | (dsimp only;omega));exact ⟨(by omega),rM⟩
  refine zN 12 ?_;refine vv (v:= .int .i64 ((q+1:Nat):Int)) gu ?_;refine zN 2 ?_;have uq:=oz.aU [0];refine aM (q+1) ?_ ⟨rfl,rfl,rfl,rfl,trivial⟩ (by first | omega | (dsimp only;omega));exact ⟨(by omega),uq⟩
 refine zN 20 ?_;exact ⟨rfl,lH.low⟩
theorem NA (W:World) (hu:Uk W.heap.size W) (args:Array Value) (h:dD (zG Tryz.prog W) args.toList Tryz.f7.params.toList):
  Calls Tryz.prog 7 args W λe W'=>e= .returned (.bool true)/\Below W.heap.size W W':=by
 rw [Tryz.params7] at h;obtain ⟨v,l1,hv,h1,h0⟩:=dD.p8 h;have h4:=dD.rC h0;subst h4;obtain rfl:args= #[v]:=by cases args;simp_all
 obtain ⟨A,c,gs,rfl,hr,hg⟩:=rX h1;exact Tt rfl rfl hg (pW gs 120 true 60) (by have:=nS gs 120 true;omega) (by have:=yP gs 120 true 60;omega) (Bh gs true (by decide)) hu hr (λq k a b hq ha hb=>aeb (by decide) hq ha hb)
end Go.Proofs.YtnhimdkpkmbhlaaGreatDoor
