import Derived.Test.YtnhimdkpkmbhlaaGreatDoorG44d2e
import Derived.Test.YtnhimdkpkmbhlaaGreatDoorG61441
import Derived.Test.YtnhimdkpkmbhlaaGreatDoorG8d3d2
import Derived.Test.YtnhimdkpkmbhlaaGreatDoorGe3f7d
set_option maxRecDepth 100000
set_option maxHeartbeats 8000000
set_option linter.unusedSimpArgs false
set_option linter.unusedVariables false
namespace Go.Proofs.YtnhimdkpkmbhlaaGreatDoor
open ChangeShapes WideShapes RowKit
def svB (b:bJ):Bool:=decide (b.role=1\/b.role=2)
theorem af6 {b:bJ}:svB b=true↔serves b:=by unfold svB serves;simp
theorem anU {L:List Fact} {m:Cl} {j q:Nat} {p:Nat×List BX} (h:P1 L m j p) (hq:q<4): ∃ y,p.2[q]? =some y/\y.b=(m.ah j).view q:=by
 have hb:=h.bm;have hv:(vB (m.ah j).view)[q]? =some ((m.ah j).view q):=by
  have h4:q=0\/q=1\/q=2\/q=3:=by omega
  rcases h4 with rfl | rfl | rfl | rfl<;>rfl
 rw [<-hb,List.getElem?_map] at hv
 cases h1:p.2[q]? with
 | none=>rw [h1] at hv;cases hv
 | some y=>rw [h1] at hv;exact ⟨y,rfl,Option.some.inj hv⟩
theorem GQ (y:BX) (w:World):
    Calls tP 19 #[.agg (bR y.b y.A y.c)] w (λe w'=>e= .returned (.bool (svB y.b))/\Below w.heap.size w w'):=by
 have S:=St.start w;refine I6 (N:=11) (vs:=[.agg (bR y.b y.A y.c)]) Tryz.func19 rfl rfl rfl ?_;refine cw [0] ?_;refine aFe (nb (row:=(bR y.b y.A y.c)) S ?_);intro b1 w2 S3;clear S;refine va ?_;refine qk [1,2] ?_;refine XU (vv (fO 0 PN) ?_);refine vv (aj rfl rfl (av Tryz.underlying3 rfl (St.cl 0 S3 rfl rfl))) ?_;by_cases h4:y.b.role=1
 ·refine vv (anQ h4) ?_;refine vm ?_;iterate 3 refine vs ?_
  refine vv ypT ?_;refine va ?_;refine qk [2] ?_;refine apx (pt ?_);rw [show svB y.b=true from by unfold svB;first | exact decide_eq_true (by omega) | exact decide_eq_false (by omega)];exact ⟨rfl,S3.low⟩
 refine vv (aes h4) ?_;refine vm ?_;refine vg (fO 0 PN) ?_;refine vg (aj rfl rfl (av Tryz.underlying3 rfl (St.cl 0 S3 rfl rfl))) ?_;by_cases h5:y.b.role=2
 ·refine vg (anQ h5) ?_;refine vv ypF ?_;refine va ?_;refine qk [2] ?_;refine apx (pt ?_);rw [show svB y.b=true from by unfold svB;first | exact decide_eq_true (by omega) | exact decide_eq_false (by omega)];exact ⟨rfl,S3.low⟩
 refine vg (aes h5) ?_;refine vv ypF ?_;refine va ?_;refine qk [2] ?_;refine apx (pt ?_);rw [show svB y.b=false from by unfold svB;first | exact decide_eq_true (by omega) | exact decide_eq_false (by omega)];exact ⟨rfl,S3.low⟩
theorem bS {gs:List Gr} {A:Option Addr} {c m:Nat} {cr:Bool} {s:List Ac} (hs:s=bG gs m cr) (hm:m<=1000) (hg: ∀ g∈gs,g.ok) (w:World) (h:Rd w w.heap.size 5 A gs.length (gs.flatMap Gr.cells)):
  Calls Tryz.prog 11 #[.slice A gs.length c,.int .i64 ((m:Nat):Int),.bool cr] w (λe w'=> ∃ A' c',e= .returned (.slice A' s.length c')/\St w.heap.size w w' [.own 69 11 (.slice A' s.length c') s.length (s.flatMap Ac.cells)]):=by
 subst hs;exact GK hm hg w h
theorem anV {B:Nat} {w0 w:World} {fs:List Fact} {A:Option Addr} {c n:Nat} {F:List Ac} (e:F.length=n) (h0: ∀ a∈F,bV a=0) (hl:F.length<=1000) (S:St B w0 w fs) (hu:Uk B w0) (xZ:Ro fs 11 A n (F.flatMap Ac.cells)):
  Calls Tryz.prog 12 #[.slice A n c] w (RG B w0 fs F):=by
 subst e;exact QT (Vo h0 hl) S hu xZ (by unfold reachBytes;omega)
theorem ayv {x:OX} {n:Nat} (hn:n<5) (h:x.U n=false):x.cells.toArray[1+n*1]? =some (.bool false):=by
 have:n=0\/n=1\/n=2\/n=3\/n=4:=by omega
 rcases this with rfl | rfl | rfl | rfl | rfl<;>(rw [<-h];rfl)
theorem aif (A A':Option Addr) (n c n' c':Nat) (l l':List Ev) (w:World) (h:Rd w w.heap.size 6 A n (aT l)) (h':Rd w w.heap.size 6 A' n' (aT l')) (hm:n<=2000) (hm':n'<=2000):
  Calls Tryz.prog 20 #[.slice A n c,.slice A' n' c'] w λe w'=>e= .returned (.int .i64 (iQ l l':Nat))/\Below w.heap.size w w':=
 (Tp A A' n c n' c' l l' w h h' (by unfold maxLen;omega) (by unfold maxLen;omega)).mono λ_ _ ⟨h1,q,h2⟩=>⟨h1,h2▸FY (Below.refl _ w) q⟩
theorem NC {gs:List Gr} {s:List Ac} {A:Option Addr} {c:Nat} {b:Int} {w:World} (hs:s=bG gs 80 true) (hg: ∀ g∈gs,g.ok) (h0: ∀ a∈s,bV a=0) (hc0: ∀ n:Nat,n<3-> ∀ a∈s++[Ap 8 n],bV a=0) (hsl:s.length<=1000) (hs9:s.length<=900) (hb: -9223372036854775808<=b/\b<=9223372036854775807) (hu:Uk w.heap.size w) (h:Rd w w.heap.size 5 A gs.length (gs.flatMap Gr.cells)) (hun: ∀ n:Nat,n<3-> ∀ q,q<2->(serves (((iX.run s).ah n).view q)->(((iX.run (s++[Ap 8 n])).ah n).view q).role=1/\(((iX.run (s++[Ap 8 n])).ah n).view q).ep=(((iX.run s).ah n).view q).ep/\iQ (((iX.run s).ah n).view q).evs (((iX.run (s++[Ap 8 n])).ah n).view q).evs=(((iX.run s).ah n).view q).evs.length)/\((((iX.run s).ah n).view q).role=3->(((iX.run (s++[Ap 8 n])).ah n).view q).role=3/\(((iX.run (s++[Ap 8 n])).ah n).view q).ep=(((iX.run s).ah n).view q).ep/\(((iX.run (s++[Ap 8 n])).ah n).view q).evs.length=(((iX.run s).ah n).view q).evs.length)/\(((iX.run s).ah n).view q).evs.length<=2000/\(((iX.run (s++[Ap 8 n])).ah n).view q).evs.length<=2000) (hup: ∀ n:Nat,n<3->((iX.run (s++[Ap 8 n])).ah n).up=false):
    Calls Tryz.prog 9 #[.slice A gs.length c,.int .i64 b] w (λe w'=>e= .returned (.bool true)/\Below w.heap.size w w'):=by
 have S:=(St.start w).bU h;refine gq 113 Tryz.func9 ?_;refine cw [0,1] ?_;refine zN 8 ?_;refine dz TA (bS (m:=80) hs (by decide) hg _ ((St.rd 0 S rfl))) ?_;rintro _ w3 ⟨A1,c2,rfl,T5⟩;refine ⟨_,rfl,?_⟩;have S4:=S.ext T5 rfl;refine zN 6 ?_;refine dz PS (anV rfl h0 hsl S4 hu (Ro.own (List.mem_of_getElem? (i:=0) rfl))) ?_;rintro _ w6 ⟨x,L0,rfl,hX9,S7⟩;refine ⟨_,rfl,?_⟩;have hX:=hX9;have S8:=S7.perm (show (L0++([.own 69 11 (.slice A1 s.length c2) s.length ((s).flatMap Ac.cells),.rd 5 A gs.length ((gs).flatMap Gr.cells)]:List Fact)).Perm (([.own 69 11 (.slice A1 s.length c2) s.length ((s).flatMap Ac.cells),.rd 5 A gs.length ((gs).flatMap Gr.cells)]:List Fact)++(L0++[])) by rw [List.append_nil];exact List.perm_append_comm);have D6: ∀ f∈L0,f∈(L0++[]):=λf h=>List.mem_append_left _ h;refine zN 3 ?_;refine fJ S8 Fb ?_;intro b10 Cc kE;refine stA 0 kE sH ?_;intro DU kD;refine zN 6 ?_;obtain ⟨n,hpn⟩: ∃ n:Nat,bn b 3=((n:Nat):Int):=Int.eq_ofNat_of_zero_le (mY (by decide)).1;have hn3:n<3:=by have:=(mY (n:=b) (m:=3) (by decide)).2;omega
 have HP:=λw=>kT (n:=b) (m:=3) hb (by decide) w;rw [hpn] at HP;have h02:=hc0 n hn3;have hlw:=hun n hn3;refine dz PU (HP _) ?_;rintro _ KI ⟨rfl,rfl⟩;refine ⟨_,rfl,?_⟩;refine zN 4 ?_;have aFJ:=D6;have l6:=kD.nil 69 11;refine zN 2 ?_;refine dw (news:=(s).flatMap Ac.cells) (xs':=(s).flatMap Ac.cells) 0 l6 (wn rfl) rfl rfl rfl rfl rfl rfl (St.ord 2 l6 rfl) Tryz.underlying23 Ae rfl (by decide) (Vp _) (by simp only [maxLen];omega) (by omega) (by simp) ?_;intro MG c18 Hw hc21 aEt nO;refine zQ ?_;refine vv (v:= .agg #[.int .i64 8,.int .i64 ((n:Nat):Int),.int .i64 0,.int .i64 0,.int .i64 0,.int .i64 0,.int .i64 0,.int .i64 0,.int .i64 0,.int .i64 0,.int .i64 0]) gF ?_;refine Oo nO ?_;intro zS Ot jB;refine dw (news:=[.int .i64 8,.int .i64 ((n:Nat):Int),.int .i64 0,.int .i64 0,.int .i64 0,.int .i64 0,.int .i64 0,.int .i64 0,.int .i64 0,.int .i64 0,.int .i64 0]) (xs':=(s++[Ap 8 n]).flatMap Ac.cells) 1 jB (wn rfl) rfl rfl rfl rfl rfl rfl (St.lM (xs:=[.int .i64 8,.int .i64 ((n:Nat):Int),.int .i64 0,.int .i64 0,.int .i64 0,.int .i64 0,.int .i64 0,.int .i64 0,.int .i64 0,.int .i64 0,.int .i64 0]) 0 jB rfl rfl rfl) Tryz.underlying23 Ae rfl (by decide) (bX rfl) (by simp only [maxLen];omega) (by omega) (iJ (enc:=Ac.cells) (x:=Ap 8 n) rfl rfl) ?_;intro SE c27 Xa aMJ aMK qR;refine dz PS (anV (by simp) h02 (by simp;omega) qR hu (Ro.own (List.mem_of_getElem? (i:=1) rfl))) ?_;rintro _ w32 ⟨x2,L2,rfl,aFK,oG⟩;refine ⟨_,rfl,?_⟩;have hX2:=aFK;have mg:=oG.perm (List.perm_append_comm_assoc L2 ([.blk zS #[.int .i64 8,.int .i64 ((n:Nat):Int),.int .i64 0,.int .i64 0,.int .i64 0,.int .i64 0,.int .i64 0,.int .i64 0,.int .i64 0,.int .i64 0,.int .i64 0] 69,.own 69 11 (.slice SE ((0+s.length)+1) c27) ((0+s.length)+1) ((s++[Ap 8 n]).flatMap Ac.cells),.blk b10 #[.int .i64 ((x.fl:Nat):Int),.bool (x.U 0),.bool (x.U 1),.bool (x.U 2),.bool (x.U 3),.bool (x.U 4),.int .i64 x.d.p0.node,.int .i64 x.d.p0.epoch,.int .i64 x.d.p1.node,.int .i64 x.d.p1.epoch,.int .i64 x.d.p2.node,.int .i64 x.d.p2.epoch,.int .i64 x.d.p3.node,.int .i64 x.d.p3.epoch,.slice x.BA 5 x.bc,.slice x.sA x.sn x.sc,.slice x.tA x.tn x.tc,.int .i64 ((x.calls:Nat):Int)] 35,.own 69 11 (.slice A1 s.length c2) s.length ((s).flatMap Ac.cells),.rd 5 A gs.length ((gs).flatMap Gr.cells)]:List Fact) (L0++[]));have ajb: ∀ f∈L2,f∈(L2++(L0++[])):=λf h=>List.mem_append_left _ h;have D6: ∀ f∈L0,f∈(L2++(L0++[])):=λf h=>List.mem_append_right _ (aFJ f h);refine zN 3 ?_;refine fJ mg Fb ?_;intro tC Xg qU;refine stA 0 qU sH ?_;intro w39 uD;refine zN 19 ?_;obtain ⟨ps,hpl,hBA,hp1⟩:=hX.ps;obtain ⟨bA,oA,hBa⟩:=yO hBA uD (memT 6 rfl D6) (by decide);obtain ⟨p,hp⟩: ∃ p,ps[n]? =some p:=⟨_,List.getElem?_eq_getElem (by omega)⟩;have hpp:=hp1 _ _ hp;obtain ⟨ps2,aML,avI,aFL⟩:=hX2.ps;obtain ⟨bA2,oA2,avJ⟩:=yO avI uD (memT 6 rfl ajb) (by decide);obtain ⟨p2,hp2⟩: ∃ p,ps2[n]? =some p:=⟨_,List.getElem?_eq_getElem (by omega)⟩;have apA:=aFL _ _ hp2;refine zN 5 ?_;have Db:=uD.aU [1];refine cZ (X:=Nat) (λxv=>[(4,.bool false),(6,.pointer (some ⟨b10,0,none⟩)),(8,.int .i64 ((n:Nat):Int)),(9,.pointer (some ⟨tC,0,none⟩)),(11,.int .i64 ((xv:Nat):Int))]) (λxv wr=>(xv<=2)/\St w.heap.size w wr ((.blk tC #[.int .i64 ((x2.fl:Nat):Int),.bool (x2.U 0),.bool (x2.U 1),.bool (x2.U 2),.bool (x2.U 3),.bool (x2.U 4),.int .i64 x2.d.p0.node,.int .i64 x2.d.p0.epoch,.int .i64 x2.d.p1.node,.int .i64 x2.d.p1.epoch,.int .i64 x2.d.p2.node,.int .i64 x2.d.p2.epoch,.int .i64 x2.d.p3.node,.int .i64 x2.d.p3.epoch,.slice x2.BA 5 x2.bc,.slice x2.sA x2.sn x2.sc,.slice x2.tA x2.tn x2.tc,.int .i64 ((x2.calls:Nat):Int)] 35)::(.own 69 11 (.slice SE ((0+s.length)+1) c27) ((0+s.length)+1) ((s++[Ap 8 n]).flatMap Ac.cells))::(.blk b10 #[.int .i64 ((x.fl:Nat):Int),.bool (x.U 0),.bool (x.U 1),.bool (x.U 2),.bool (x.U 3),.bool (x.U 4),.int .i64 x.d.p0.node,.int .i64 x.d.p0.epoch,.int .i64 x.d.p1.node,.int .i64 x.d.p1.epoch,.int .i64 x.d.p2.node,.int .i64 x.d.p2.epoch,.int .i64 x.d.p3.node,.int .i64 x.d.p3.epoch,.slice x.BA 5 x.bc,.slice x.sA x.sn x.sc,.slice x.tA x.tn x.tc,.int .i64 ((x.calls:Nat):Int)] 35)::(.own 69 11 (.slice A1 s.length c2) s.length ((s).flatMap Ac.cells))::(.rd 5 A gs.length ((gs).flatMap Gr.cells))::(L2++(L0++[])))) (λxv=>2-xv) (0) ?_ ?_ ?_
 ·exact ⟨Nat.zero_le _,Db⟩
 ·exact ⟨rfl,rfl,rfl,rfl,rfl,trivial⟩
 rintro q Uw ⟨aFM,qB⟩
 try dsimp only at aFM qB
 refine bq (l':=[(4,.bool false),(6,.pointer (some ⟨b10,0,none⟩)),(8,.int .i64 ((n:Nat):Int)),(9,.pointer (some ⟨tC,0,none⟩)),(11,.int .i64 ((q:Nat):Int))]) ⟨rfl,rfl,rfl,rfl,rfl,trivial⟩ (aH (aH (aC (vm ?_))));by_cases h45:((q:Nat):Int)<2
 ·refine zN 9 ?_;obtain ⟨y,hy,hyb⟩:=anU hpp (q:=q) (by omega);obtain ⟨y2,hy2,aFN⟩:=anU apA (q:=q) (by omega);obtain ⟨hl1,hl2,hl3,hl4⟩:=hlw q (by omega);rw [<-hyb] at hl1 hl2 hl3;rw [<-aFN] at hl1 hl2 hl4;refine zN 4 ?_;refine vv (v:= .pointer (some ⟨bA,oA+n*1,none⟩)) (aJ rfl rfl rfl (jr n hBa Tryz.underlying31 NZ rfl (by omega))) ?_;refine vv (v:= .slice (some ⟨p.1,0,none⟩) 4 4) (aj rfl rfl (av Tryz.underlying74 rfl (rA hBA hBa qB (memT 5 rfl D6) (aX (enc:=jH) (sz:=1) (k:=n) (j:=0) (λ_=>rfl) hp rfl)))) ?_;refine zQ ?_;refine vv (jI q) ?_;refine vv (v:= .agg #[.int .i64 y.b.role,.int .i64 y.b.ep,.int .i64 y.b.fr,.int .i64 y.b.tg,.int .i64 y.b.rd,.slice y.A y.b.evs.length y.c]) (aj rfl rfl (aA (cs:=BX.cells y) Tryz.underlying73 rfl aB rfl (λj u hu=>by rw [Nat.add_assoc];exact rA hpp.rd rfl qB (memT 5 rfl D6) (aX (enc:=BX.cells) (sz:=6) (k:=q) (λ_=>rfl) hy hu)))) ?_;refine fJ qB fV ?_;intro Da w47 rJ;refine stA 0 rJ aB ?_;intro Xb rM;refine zN 7 ?_;refine vv (v:= .pointer (some ⟨bA2,oA2+n*1,none⟩)) (aJ rfl rfl rfl (jr n avJ Tryz.underlying31 NZ rfl (by omega))) ?_;refine vv (v:= .slice (some ⟨p2.1,0,none⟩) 4 4) (aj rfl rfl (av Tryz.underlying74 rfl (rA avI avJ rM (memT 6 rfl ajb) (aX (enc:=jH) (sz:=1) (k:=n) (j:=0) (λ_=>rfl) hp2 rfl)))) ?_;refine zQ ?_;refine vv (jI q) ?_;refine vv (v:= .agg #[.int .i64 y2.b.role,.int .i64 y2.b.ep,.int .i64 y2.b.fr,.int .i64 y2.b.tg,.int .i64 y2.b.rd,.slice y2.A y2.b.evs.length y2.c]) (aj rfl rfl (aA (cs:=BX.cells y2) Tryz.underlying73 rfl aB rfl (λj u hu=>by rw [Nat.add_assoc];exact rA apA.rd rfl rM (memT 6 rfl ajb) (aX (enc:=BX.cells) (sz:=6) (k:=q) (λ_=>rfl) hy2 hu)))) ?_;refine fJ rM fV ?_;intro b51 w52 vS;refine stA 0 vS aB ?_;intro w54 u6;refine zN 3 ?_
  rcases hv:svB y.b with _ | _
  ·have HV:=λw=>GQ y w;rw [hv] at HV;refine zQ ?_;have Ew:=u6.drew;refine aN 25 Ew [] ?_;refine dn ?_;refine aZ 1 ?_;refine jw 1 rfl avB (HV _) ?_;rintro _ w58 ⟨rfl,aFO⟩;refine ⟨_,rfl,?_⟩;have yB:=Ew.on aFO;refine aO 25 ?_;refine zN 5 ?_;by_cases avK:y.b.role=3
   ·obtain ⟨hr1,hr2,hr3⟩:=hl2 avK;refine zN 33 ?_;refine vv (v:= .int .i64 ((q+1:Nat):Int)) gu ?_;refine zN 2 ?_;have wJ:=yB.aU [1,0];refine aM (q+1) ?_ ⟨rfl,rfl,rfl,rfl,rfl,trivial⟩ (by first | omega | (dsimp only;omega));exact ⟨(by omega),wJ⟩
   refine zN 33 ?_;refine vv (v:= .int .i64 ((q+1:Nat):Int)) gu ?_;refine zN 2 ?_;have S64:=yB.aU [1,0];refine aM (q+1) ?_ ⟨rfl,rfl,rfl,rfl,rfl,trivial⟩ (by first | omega | (dsimp only;omega));exact ⟨(by omega),S64⟩
  have HV:=λw=>GQ y w;rw [hv] at HV;obtain ⟨hr1,hr2,hr3⟩:=hl1 (af6.1 hv);have avK: ¬ y.b.role=3:=by have:=af6.1 hv;unfold serves at this;omega
  refine zQ ?_;have DY:=u6.drew;refine aN 25 DY [] ?_;refine dn ?_;refine aZ 1 ?_;refine jw 1 rfl avB (HV _) ?_;rintro _ w67 ⟨rfl,aFP⟩;refine ⟨_,rfl,?_⟩;have yC:=DY.on aFP;refine aO 20 ?_;refine aZ 18 ?_;refine vL (i:=18) rfl rfl (wg rfl rfl rfl rfl) rfl rfl (jc (vs:=[.slice y.A y.b.evs.length y.c,.slice y2.A y2.b.evs.length y2.c]) rfl aFd ⟨rfl,rfl,trivial⟩) (aif _ _ _ _ _ _ _ _ _ ((hpp.bo y (List.mem_of_getElem? hy)).1.rd yC (memT 7 rfl D6)) ((apA.bo y2 (List.mem_of_getElem? hy2)).1.rd yC (memT 7 rfl ajb)) hl3 hl4) ?_;rintro _ w89 ⟨rfl,aFQ⟩;refine ⟨_,rfl,?_⟩;have Xl:=yC.on aFQ;refine aO 5 ?_;refine zN 38 ?_;refine vv (v:= .int .i64 ((q+1:Nat):Int)) gu ?_;refine zN 2 ?_;have Jl:=Xl.aU [1,0];refine aM (q+1) ?_ ⟨rfl,rfl,rfl,rfl,rfl,trivial⟩ (by first | omega | (dsimp only;omega));exact ⟨(by omega),Jl⟩
 refine zN 13 ?_;refine vv (v:= .pointer (some ⟨tC,1+n*1,none⟩)) (aJ rfl rfl rfl (fE n Tryz.underlying25 Hf rfl (by omega))) ?_;refine vv (v:= .bool false) (aj rfl rfl (av Tryz.underlying4 rfl (St.cl 0 qB rfl (ayv (x:=x2) (by omega) (by rw [hX2.up n (by omega)];exact hup n hn3))))) ?_;refine zN 6 ?_;exact ⟨rfl,qB.low⟩
def JG (b:bJ):Prop:=serves b\/b.role=3
structure ayw (m:Cl) (q o:Nat):Prop where
 lt:o<5
 me:JG ((m.ah o).view q)
 yR: ∀ n,n<5->n≠o->JG ((m.ah n).view q)->((m.ah n).view q).ep< ((m.ah o).view q).ep
def AtQ (m:Cl) (q o n:Nat) (a:Int) (one:Bool):Prop:=(a= -1/\ ∀ j,j<n-> ¬ JG ((m.ah j).view q))\/ ∃ k:Nat,a=((k:Nat):Int)/\k<n/\JG ((m.ah k).view q)/\(∀ j,j<n->JG ((m.ah j).view q)->((m.ah j).view q).ep<=((m.ah k).view q).ep)/\(o<n->k=o/\one=true)
section
variable {m:Cl} {q o n:Nat} {a:Int} {one:Bool}
theorem AtQ.first (h:AtQ m q o n a one) (hA:ayw m q o) (ha:a<0) (hc:JG ((m.ah n).view q)):AtQ m q o (n+1) ((n:Nat):Int) true:=by
 rcases h with ⟨h1,h2⟩ | ⟨k,h1,h2,h3,h4,h5⟩
 ·exact .inr ⟨n,rfl,by omega,hc,λj hj hcj=>(Nat.lt_succ_iff_lt_or_eq.1 hj).elim (λh=>absurd hcj (h2 j h)) (λe=>e▸Int.le_refl _),λh=>⟨(Nat.lt_succ_iff_lt_or_eq.1 h).elim (λh=>absurd hA.me (h2 o h)) Eq.symm,rfl⟩⟩
 omega
end
section
variable {m:Cl} {q n k:Nat} {g:Gh}
theorem LW.ayx (h:LW m q g k) (hn:n<5) (h3:((m.ah n).view q).role=3):((m.ah n).view q).ep<=g.m/\(((m.ah n).view q).ep=g.m->n=g.o):=by
 have I:=h.qi;by_cases e:n=g.o
 ·subst e;have:=I.Df;unfold vw at this;exact ⟨by omega,λ_=>rfl⟩
 have:=I.yR n hn e;unfold vw at this
 rcases this with ⟨h1,_⟩ | ⟨k,h1,h2,h4,h5,_⟩ | ⟨k,h1,_⟩<;>exact ⟨by omega,λ_=>by omega⟩
theorem LW.aP (h:LW m q g k) (hn:n<5) (hs:serves ((m.ah n).view q)):n=g.o/\((m.ah n).view q).ep=g.m:=by
 have I:=h.qi;have e:=Inv.who I hn hs;have:=I.Df;unfold vw at this;rw [<-e] at this;exact ⟨e,this⟩
end
theorem Q0 (gs:List Gr) {m:Nat} (hm:m<=500) (cr:Bool) (i:Nat): ∃ k,Bs (iX.run ((bG gs m cr).take i)) k:=by
 have:=nS gs m cr;exact ⟨_,Xt ((bG gs m cr).take i) aiJ (λa ha=>Oh (xG gs m cr a (List.mem_of_mem_take ha))) (by rw [List.length_take];omega)⟩
theorem amm (gs:List Gr) {m:Nat} (hm:m<=500) (cr:Bool) {i n q:Nat} (hn:n<5) (hq:q<4):au (((iX.run ((bG gs m cr).take i)).ah n).view q)=0:=by
 obtain ⟨k,B⟩:=Q0 gs hm cr i;have h:=B.lJ n hn
 cases hu:((iX.run ((bG gs m cr).take i)).ah n).up with
 | true=>obtain ⟨rs,us,hU⟩:=h.Ii hu;rw [gD hu];exact hU.mO q hq
 | false=>rw [show ((iX.run ((bG gs m cr).take i)).ah n).view=_ from if_neg (by rw [hu];decide)];exact h.JF.2.1 q hq
theorem amn (gs:List Gr) {m:Nat} (hm:m<=500) (cr:Bool) {i n q:Nat} (hn:n<5) (hq:q<4):0<=(((iX.run ((bG gs m cr).take i)).ah n).view q).ep/\(((iX.run ((bG gs m cr).take i)).ah n).view q).ep<=1048576/\(((iX.run ((bG gs m cr).take i)).ah n).view q).evs.length<=2000:=by
 have h:=amm gs hm cr (i:=i) hn hq;have h1:=fQ h;have h2:=gH (eu h).2;unfold bF at h1;exact ⟨by omega,by omega,h2⟩
theorem Ej: ∀ (a b:List Ev),iQ a (a++b)=a.length
 | [],_=>by simp [iQ]
 | x::a,b=>by
  rw [List.cons_append,iQ,if_pos rfl,Ej a b,List.length_cons]
theorem Jv {G:List Ev} {i j:Nat} (h:i<=j):iQ (G.take i) (G.take j)=(G.take i).length:=by
 have e:G.take j=G.take i++(G.drop i).take (j-i):=by
  have:=List.take_add (l:=G) (i:=i) (j:=j-i);rwa [Nat.add_sub_cancel' h] at this
 rw [e];exact Ej _ _
section
variable {m:Cl} {q n k:Nat} {g:Gh}
theorem LW.whole (h:LW m q g k) (hn:n<5) (h3:((m.ah n).view q).role=3): ∃ t:Nat,t<5/\((m.ah n).view q).tg=((t:Nat):Int)/\
  (JG ((m.ah t).view q)->((m.ah t).view q).ep=((m.ah n).view q).ep+1->iQ ((m.ah n).view q).evs ((m.ah t).view q).evs=((m.ah n).view q).evs.length/\((m.ah t).view q).evs[((m.ah n).view q).evs.length]? =some aS):=by
 have I:=h.qi;have hv: ∀ j,vw m q j=(m.ah j).view q:=λ_=>rfl;have ha:=I.Df;have hG:=I.Oz;rw [hv] at ha hG;by_cases hno:n=g.o
 ·subst hno;obtain ⟨_,_,h4,h5⟩:=I.Xn (by rw [hv,h3];decide);rw [hv] at h4 h5;obtain ⟨t,ht⟩:=Int.eq_ofNat_of_zero_le h4;refine ⟨t,by omega,ht,λhc he=>?_⟩
  exfalso
  rcases hc with hc | hc
  ·have:=(h.aP (n:=t) (by omega) hc).2;omega
  have:=(h.ayx (n:=t) (by omega) hc).1;omega
 have hO:=I.yR n hn hno;rw [hv] at hO
 rcases hO with ⟨r,_⟩ | ⟨j,r1,r2,r3,r4,r5,r6,r7⟩ | ⟨i,r,_⟩
 ·omega
 ·have ht5:=I.aiG (j+1) (by omega) (by omega);refine ⟨g.own (j+1),ht5,r7,λhc he=>?_⟩;obtain ⟨b1,b2⟩:=I.brk j r3 r4;have hl:=I.Od r3 r4;have hln:(g.G.take (g.len j)).length=g.len j:=by rw [List.length_take];omega
  rcases Nat.lt_or_ge (j+1) g.m with hj | hj
  ·have avL:g.own (j+1)≠g.o:=λe=>by rw [e] at he;omega
   have hO2:=I.yR _ ht5 avL;rw [hv] at hO2
   rcases hc with hc | hc
   ·exact absurd (h.aP ht5 hc).1 avL
   rcases hO2 with ⟨r,_⟩ | ⟨i,s1,s2,s3,s4,s5,s6,s7⟩ | ⟨i,r,_⟩
   ·omega
   ·obtain rfl:i=j+1:=by omega
    rw [show g.bd (j+1)=g.len (j+1) from if_neg (by omega)] at b2;rw [s6,r6];refine ⟨Jv (by omega),?_⟩;rw [hln,List.getElem?_take,if_pos b2];exact b1
   omega
  have e:g.own (j+1)=g.o:=by rw [show j+1=g.m by omega];rfl
  rw [e,hG,r6];refine ⟨?_,by rw [hln];exact b1⟩;have:=Jv (G:=g.G) (i:=g.len j) (j:=g.G.length) (by omega);rwa [List.take_length] at this
 omega
end
theorem Vx {m:Cl} {n q T S D K:Nat} (hB:fK m T S D K) (hn:n<5) (hq:q<4):((m.crash n 0).ah n).view q=jm ((m.ah n).view q)/\((m.crash n 0).ah n).up=false:=by
 cases hu:(m.ah n).up with
 | true=>
  obtain ⟨rs,us,hU⟩:=(hB.lJ n hn).Ii hu;have h:=aml hU;have hu2:((m.ah n).crashed 0).up=false:=rfl;rw [Vm hu,show (m.put n ((m.ah n).crashed 0)).ah n=(m.ah n).crashed 0 from upd_same _ _ _];exact ⟨by rw [h.view hu2 hq,gD hu],hu2⟩
 | false=>
  obtain ⟨rs,t,f,hD⟩:=(hB.lJ n hn).aug hu;rw [QM hu,hD.view hu hq];exact ⟨(if_neg (hD.mO q hq).2).symm,hu⟩
theorem amo {b:bJ}:(serves b->(jm b).role=1/\(jm b).ep=b.ep/\iQ b.evs (jm b).evs=b.evs.length)/\(b.role=3->(jm b).role=3/\(jm b).ep=b.ep/\(jm b).evs.length=b.evs.length)/\(jm b).evs=b.evs:=by
 have he:(jm b).evs=b.evs:=by unfold jm;split<;>rfl
 have hc:iQ b.evs b.evs=b.evs.length:=by
  have:=Ej b.evs [];rwa [List.append_nil] at this
 refine ⟨λh=>?_,λh=>?_,he⟩
 ·rw [he];unfold jm
  split
  ·exact ⟨rfl,rfl,hc⟩
  exact ⟨h.elim id λh=>by contradiction,rfl,hc⟩
 rw [he];unfold jm;rw [if_neg (by omega)];exact ⟨h,rfl,rfl⟩
theorem aee {n:Nat} (h:n<3):bV (Ap 8 (n:Int))=0:=by
 have:n=0\/n=1\/n=2:=by omega
 rcases this with rfl | rfl | rfl<;>rfl
theorem Q5 (s:List Ac) (n:Nat):iX.run (s++[Ap 8 (n:Int)])=(iX.run s).crash n 0:=by
 show List.foldl Cl.act iX (s++[Ap 8 (n:Int)])=_
 rw [List.foldl_append];exact Ir (a:=Ap 8 (n:Int)) rfl rfl
theorem amq {W:World} {v:Value} (h:zG Tryz.prog W v 3): ∃ b:Int,v= .int .i64 b/\ -9223372036854775808<=b/\b<=9223372036854775807:=by
 obtain ⟨⟨base,hk⟩,l,hl,ha⟩:=h;rw [show flat Tryz.prog 30 3=some [.at_ (.int .i64)] from by kernel_rfl] at hl
 cases hl;obtain ⟨b,rfl⟩:=okWide_int Tryz.underlying3 hk;obtain ⟨z,hz,hw⟩:=ha.1
 cases hz;exact ⟨_,rfl,wf_i64 hw⟩
theorem IB (W:World) (hu:Uk W.heap.size W) (args:Array Value) (h:dD (zG Tryz.prog W) args.toList Tryz.f9.params.toList):
  Calls Tryz.prog 9 args W λe W'=>e= .returned (.bool true)/\Below W.heap.size W W':=by
 rw [Tryz.params9] at h;obtain ⟨v,l1,hv,h1,h0⟩:=dD.p8 h;obtain ⟨v2,l2,hv2,h2,h02⟩:=dD.p8 h0;have h4:=dD.rC h02;subst h4;obtain rfl:args= #[v,v2]:=by cases args;simp_all
 obtain ⟨A,c,gs,rfl,hr,hg⟩:=rX h1;obtain ⟨b,rfl,hb⟩:=amq h2;have hsl:=nS gs 80 true;have hB:=Q0 gs (m:=80) (by decide) true (bG gs 80 true).length;rw [List.take_length] at hB;obtain ⟨k,hB⟩:=hB;refine NC rfl hg (xG _ _ _) (λn hn a ha=>?_) (by omega) (by omega) hb hu hr (λn hn q hq=>?_) (λn hn=>?_)
 ·rcases List.mem_append.1 ha with ha | ha
  ·exact xG _ _ _ a ha
  rw [List.mem_singleton] at ha;subst ha;exact aee hn
 ·rw [Q5,(Vx hB (n:=n) (q:=q) (by omega) (by omega)).1];obtain ⟨d1,d2,d3⟩:=amo (b:=((iX.run (bG gs 80 true)).ah n).view q);have hl:=(amn gs (m:=80) (by decide) true (i:=(bG gs 80 true).length) (n:=n) (q:=q) (by omega) (by omega)).2.2;rw [List.take_length] at hl;exact ⟨d1,d2,hl,by rw [d3];exact hl⟩
 rw [Q5];exact (Vx hB (n:=n) (q:=0) (by omega) (by omega)).2
end Go.Proofs.YtnhimdkpkmbhlaaGreatDoor
