import Derived.Test.YthhnonpehllibaaGreatDoorGd2f7c
set_option maxRecDepth 100000
set_option maxHeartbeats 8000000
set_option linter.unusedSimpArgs false
set_option linter.unusedVariables false
namespace Go.Proofs.YthhnonpehllibaaGreatDoor
open ChangeShapes WideShapes RowKit
theorem Qw {gs:List Gr} {s:List Ac} {A:Option Addr} {c:Nat} {w:World} (hs:s=bF gs 60 true) (hg: ∀ g∈gs,g.ok) (h0: ∀ a∈s,dH a=0) (hsl:s.length<=1000) (hu:Uk w.heap.size w) (h:Rd w w.heap.size 5 A gs.length (gs.flatMap Gr.cells)) (hpw: ∀ i n q,n<5->q<2->(((fG.run (s.take i)).ah n).view q).role=4-> ∃ f:Nat,f<5/\(((fG.run (s.take i)).ah n).view q).fr=((f:Nat):Int)/\(og (((fG.run (s.take i)).ah f).view q)->(((fG.run (s.take i)).ah f).view q).ep+1=(((fG.run (s.take i)).ah n).view q).ep->iq (((fG.run (s.take i)).ah n).view q).evs (((fG.run (s.take i)).ah f).view q).evs=(((fG.run (s.take i)).ah n).view q).evs.length)) (hbd: ∀ i n q,n<5->q<2->0<=(((fG.run (s.take i)).ah n).view q).ep/\(((fG.run (s.take i)).ah n).view q).ep<=1048576/\(((fG.run (s.take i)).ah n).view q).evs.length<=2000):
    Calls Tryz.prog 5 #[.slice A gs.length c] w (λe w'=>e= .returned (.bool true)/\Below w.heap.size w w'):=by
 have S:=(St.start w).bV h;refine gB 85 Tryz.func5 ?_;refine cw [0] ?_;refine zN 8 ?_;refine dI ak7 (Ew (m:=60) hs (by decide) hg _ ((St.rd 0 S rfl))) ?_;rintro _ w3 ⟨A1,c2,rfl,T5⟩;refine ⟨_,rfl,?_⟩;have S4:=S.ext T5 rfl;refine dI ak6 (u6 (by omega) (dx (S4.own 0 rfl)).1 h0 S4 hu (Ro.own (List.mem_of_getElem? (i:=0) rfl))) ?_;rintro _ w6 ⟨Qv,L9,wD,c11,rfl,ak2,abI,S7⟩;refine ⟨_,rfl,?_⟩;refine zN 14 ?_;refine dW (X:=Nat) (λxv=>[(2,.bool false),(3,.slice wD (s.length+1) c11),(4,.bool true),(5,.int .i64 ((xv:Nat):Int))]) (λxv wr=>(xv<=s.length+1)/\St w.heap.size w wr ((.own 40 18 (.slice wD (s.length+1) c11) (s.length+1) ((Qv).flatMap OX.cells))::(L9++[.own 57 11 (.slice A1 s.length c2) s.length ((s).flatMap Ac.cells),.rd 5 A gs.length ((gs).flatMap Gr.cells)]))) (λxv=>s.length+1-xv) (0) ?_ ?_ ?_
 ·exact ⟨Nat.zero_le _,S7⟩
 ·exact ⟨rfl,rfl,rfl,rfl,trivial⟩
 rintro i Jk ⟨abJ,gI⟩
 try dsimp only at abJ gI
 refine bC (l':=[(2,.bool false),(3,.slice wD (s.length+1) c11),(4,.bool true),(5,.int .i64 ((i:Nat):Int))]) ⟨rfl,rfl,rfl,rfl,trivial⟩ (aQ (aQ (aC (vm ?_))));refine zN 2 ?_;by_cases tK:((i:Nat):Int)< ((s.length+1:Nat):Int)
 ·refine zN 9 ?_;obtain ⟨x,hx⟩: ∃ x,Qv[i]? =some x:=⟨_,List.getElem?_eq_getElem (by omega)⟩;have hX:=abI _ _ hx;obtain ⟨ps,hpl,Fz,hp1⟩:=hX.ps;have pE: ∀ f∈L9,f∈(L9++[.own 57 11 (.slice A1 s.length c2) s.length ((s).flatMap Ac.cells),.rd 5 A gs.length ((gs).flatMap Gr.cells)]):=λf h=>List.mem_append_left _ h;obtain ⟨bA,oA,hBa⟩:=qA Fz gI (memT 1 rfl pE) (by decide);refine zN 3 ?_;obtain ⟨b18,Qx,rfl⟩:=Rd.addr (St.ord 0 gI rfl) (by omega);refine vv (jh i) ?_;refine vv (aj rfl rfl (aA (cs:=OX.cells x) Tryz.underlying40 rfl tV rfl (Rd.vM (St.ord 0 gI rfl) (λ_ _ h=>bg (enc:=OX.cells) (sz:=18) (λ_=>rfl) hx h)))) ?_;refine fF gI QC ?_;intro b20 Dq iR;refine stA 0 iR tV ?_;intro Jg jw;refine zN 8 ?_;refine dW (X:=Nat) (λxv=>[(2,.bool false),(3,.slice (some ⟨b18,Qx,none⟩) (s.length+1) c11),(4,.bool true),(5,.int .i64 ((i:Nat):Int)),(6,.pointer (some ⟨b20,0,none⟩)),(7,.int .i64 ((xv:Nat):Int))]) (λxv wr=>(xv<=5)/\St w.heap.size w wr ((.blk b20 #[.int .i64 ((x.fl:Nat):Int),.bool (x.U 0),.bool (x.U 1),.bool (x.U 2),.bool (x.U 3),.bool (x.U 4),.int .i64 x.d.p0.node,.int .i64 x.d.p0.epoch,.int .i64 x.d.p1.node,.int .i64 x.d.p1.epoch,.int .i64 x.d.p2.node,.int .i64 x.d.p2.epoch,.int .i64 x.d.p3.node,.int .i64 x.d.p3.epoch,.slice x.BA 5 x.bc,.slice x.sA x.sn x.sc,.slice x.tA x.tn x.tc,.int .i64 ((x.calls:Nat):Int)] 40)::(.own 40 18 (.slice (some ⟨b18,Qx,none⟩) (s.length+1) c11) (s.length+1) ((Qv).flatMap OX.cells))::(L9++[.own 57 11 (.slice A1 s.length c2) s.length ((s).flatMap Ac.cells),.rd 5 A gs.length ((gs).flatMap Gr.cells)]))) (λxv=>5-xv) (0) ?_ ?_ ?_
  ·exact ⟨Nat.zero_le _,jw⟩
  ·exact ⟨rfl,rfl,rfl,rfl,rfl,rfl,trivial⟩
  rintro n w25 ⟨hi27,lS⟩
  try dsimp only at hi27 lS
  refine bC (l':=[(2,.bool false),(3,.slice (some ⟨b18,Qx,none⟩) (s.length+1) c11),(4,.bool true),(5,.int .i64 ((i:Nat):Int)),(6,.pointer (some ⟨b20,0,none⟩)),(7,.int .i64 ((n:Nat):Int))]) ⟨rfl,rfl,rfl,rfl,rfl,rfl,trivial⟩ (aQ (aQ (aC (vm ?_))));refine zN 3 ?_;by_cases h28:((n:Nat):Int)<5
  ·refine zN 14 ?_;refine dW (X:=Nat) (λxv=>[(2,.bool false),(3,.slice (some ⟨b18,Qx,none⟩) (s.length+1) c11),(4,.bool true),(5,.int .i64 ((i:Nat):Int)),(6,.pointer (some ⟨b20,0,none⟩)),(7,.int .i64 ((n:Nat):Int)),(8,.int .i64 ((xv:Nat):Int))]) (λxv wr=>(xv<=2)/\St w.heap.size w wr ((.blk b20 #[.int .i64 ((x.fl:Nat):Int),.bool (x.U 0),.bool (x.U 1),.bool (x.U 2),.bool (x.U 3),.bool (x.U 4),.int .i64 x.d.p0.node,.int .i64 x.d.p0.epoch,.int .i64 x.d.p1.node,.int .i64 x.d.p1.epoch,.int .i64 x.d.p2.node,.int .i64 x.d.p2.epoch,.int .i64 x.d.p3.node,.int .i64 x.d.p3.epoch,.slice x.BA 5 x.bc,.slice x.sA x.sn x.sc,.slice x.tA x.tn x.tc,.int .i64 ((x.calls:Nat):Int)] 40)::(.own 40 18 (.slice (some ⟨b18,Qx,none⟩) (s.length+1) c11) (s.length+1) ((Qv).flatMap OX.cells))::(L9++[.own 57 11 (.slice A1 s.length c2) s.length ((s).flatMap Ac.cells),.rd 5 A gs.length ((gs).flatMap Gr.cells)]))) (λxv=>2-xv) (0) ?_ ?_ ?_
   ·exact ⟨Nat.zero_le _,lS⟩
   ·exact ⟨rfl,rfl,rfl,rfl,rfl,rfl,rfl,trivial⟩
   rintro q Zz ⟨Q7,sH⟩
   try dsimp only at Q7 sH
   refine bC (l':=[(2,.bool false),(3,.slice (some ⟨b18,Qx,none⟩) (s.length+1) c11),(4,.bool true),(5,.int .i64 ((i:Nat):Int)),(6,.pointer (some ⟨b20,0,none⟩)),(7,.int .i64 ((n:Nat):Int)),(8,.int .i64 ((q:Nat):Int))]) ⟨rfl,rfl,rfl,rfl,rfl,rfl,rfl,trivial⟩ (aQ (aQ (aC (vm ?_))));by_cases h32:((q:Nat):Int)<2
   ·refine zN 9 ?_;obtain ⟨p,hp⟩: ∃ p,ps[n]? =some p:=⟨_,List.getElem?_eq_getElem (by omega)⟩;have hpp:=hp1 _ _ hp;obtain ⟨y,hy,hyb⟩:=FB hpp (q:=q) (by omega);refine zN 4 ?_;refine vv (v:= .pointer (some ⟨bA,oA+n*1,none⟩)) (aT rfl rfl rfl (dK n hBa Tryz.underlying36 tX rfl (by omega))) ?_;refine vv (v:= .slice (some ⟨p.1,0,none⟩) 4 4) (aj rfl rfl (ay Tryz.underlying44 rfl (gu Fz hBa sH (memT 2 rfl pE) (bg (enc:=gy) (sz:=1) (k:=n) (j:=0) (λ_=>rfl) hp rfl)))) ?_;refine zQ ?_;refine vv (jh q) ?_;refine vv (v:= .agg #[.int .i64 y.b.role,.int .i64 y.b.ep,.int .i64 y.b.fr,.int .i64 y.b.tg,.int .i64 y.b.rd,.slice y.A y.b.evs.length y.c]) (aj rfl rfl (aA (cs:=BX.cells y) Tryz.underlying43 rfl aB rfl (λj u hu=>by rw [Nat.add_assoc];exact gu hpp.rd rfl sH (memT 2 rfl pE) (bg (enc:=BX.cells) (sz:=6) (k:=q) (λ_=>rfl) hy hu)))) ?_;refine fF sH fD ?_;intro b33 Yq sG;refine stA 0 sG aB ?_;intro w36 lY;refine zN 7 ?_;by_cases hr:y.b.role=4
    ·refine zN 7 ?_;obtain ⟨f,hf5,hff,I9⟩:=hpw i n q (by omega) (by omega) (by rw [<-hyb];exact hr);rw [<-hyb] at hff I9;obtain ⟨p2,hp2⟩: ∃ p,ps[f]? =some p:=⟨_,List.getElem?_eq_getElem (by omega)⟩;have sZ:=hp1 _ _ hp2;obtain ⟨y2,hy2,u7⟩:=FB sZ (q:=q) (by omega);rw [<-u7] at I9;obtain ⟨hb1,hb2,hb3⟩:=hbd i n q (by omega) (by omega);obtain ⟨hb4,hb5,hb6⟩:=hbd i f q (by omega) (by omega);rw [<-hyb] at hb1 hb2 hb3;rw [<-u7] at hb4 hb5 hb6;refine zN 5 ?_;refine vv (v:= .pointer (some ⟨bA,oA+f*1,none⟩)) (aT rfl rfl rfl (dK f hBa Tryz.underlying36 tX hff (by omega))) ?_;refine vv (v:= .slice (some ⟨p2.1,0,none⟩) 4 4) (aj rfl rfl (ay Tryz.underlying44 rfl (gu Fz hBa lY (memT 3 rfl pE) (bg (enc:=gy) (sz:=1) (k:=f) (j:=0) (λ_=>rfl) hp2 rfl)))) ?_;refine zQ ?_;refine vv (jh q) ?_;refine vv (v:= .agg #[.int .i64 y2.b.role,.int .i64 y2.b.ep,.int .i64 y2.b.fr,.int .i64 y2.b.tg,.int .i64 y2.b.rd,.slice y2.A y2.b.evs.length y2.c]) (aj rfl rfl (aA (cs:=BX.cells y2) Tryz.underlying43 rfl aB rfl (λj u hu=>by rw [Nat.add_assoc];exact gu sZ.rd rfl lY (memT 3 rfl pE) (bg (enc:=BX.cells) (sz:=6) (k:=q) (λ_=>rfl) hy2 hu)))) ?_;refine fF lY fD ?_;intro b38 ZF uj;refine stA 0 uj aB ?_;intro w41 pz;refine zN 2 ?_
     rcases hv:Sw y2.b with _ | _
     ·have HV:=λw=>lC y2 w;rw [hv] at HV;by_cases hr2:y2.b.role=3
      ·by_cases dZ:y2.b.ep+1=y.b.ep
       ·have hcm:=I9 (.inr hr2) dZ;refine zQ ?_;have p9:=pz.drew;refine aG 26 p9 [] ?_;refine bZ ?_;refine aW 1 ?_;refine iY 1 rfl BS (HV _) ?_;rintro _ Z5 ⟨rfl,Iw⟩;refine ⟨_,rfl,?_⟩;have nG:=p9.on Iw;refine aJ 9 ?_;refine jJ (v:= .int .i64 (y2.b.ep+1)) (i:=10) (n:=15) rfl (by kernel_rfl) (by kernel_rfl) (by kernel_rfl) nG rfl (wg rfl rfl rfl rfl) rfl rfl (λ_ _=>(aK rfl rfl rfl (yN (by omega) (by omega)))) ?_;refine aJ 12 ?_;refine aW 20 ?_;refine nQ (i:=20) rfl rfl (wg rfl rfl rfl rfl) rfl rfl (iB (vs:=[.slice y.A y.b.evs.length y.c,.slice y2.A y2.b.evs.length y2.c]) rfl afQ ⟨rfl,rfl,trivial⟩) (Ez _ _ _ _ _ _ _ _ _ ((hpp.bo y (List.mem_of_getElem? hy)).1.rd nG (memT 4 rfl pE)) ((sZ.bo y2 (List.mem_of_getElem? hy2)).1.rd nG (memT 4 rfl pE)) (by omega) (by omega)) ?_;rintro _ w69 ⟨rfl,amI⟩;refine ⟨_,rfl,?_⟩;have qc:=nG.on amI;refine aJ 4 ?_;refine zN 7 ?_;refine vv (v:= .int .i64 ((q+1:Nat):Int)) gN ?_;refine zN 2 ?_;have GV:=qc.aR [1,0];refine aS (q+1) ?_ ⟨rfl,rfl,rfl,rfl,rfl,rfl,rfl,trivial⟩ (by first | omega | (dsimp only;omega));exact ⟨(by omega),GV⟩
       refine zQ ?_;have AL:=pz.drew;refine aG 26 AL [] ?_;refine bZ ?_;refine aW 1 ?_;refine iY 1 rfl BS (HV _) ?_;rintro _ w77 ⟨rfl,aCp⟩;refine ⟨_,rfl,?_⟩;have EZ:=AL.on aCp;refine aJ 9 ?_;refine jJ (v:= .int .i64 (y2.b.ep+1)) (i:=10) (n:=15) rfl (by kernel_rfl) (by kernel_rfl) (by kernel_rfl) EZ rfl (wg rfl rfl rfl rfl) rfl rfl (λ_ _=>(aK rfl rfl rfl (yN (by omega) (by omega)))) ?_;refine aJ 16 ?_;refine zN 7 ?_;refine vv (v:= .int .i64 ((q+1:Nat):Int)) gN ?_;refine zN 2 ?_;have Du:=EZ.aR [1,0];refine aS (q+1) ?_ ⟨rfl,rfl,rfl,rfl,rfl,rfl,rfl,trivial⟩ (by first | omega | (dsimp only;omega));exact ⟨(by omega),Du⟩
      refine zQ ?_;have zl:=pz.drew;refine aG 26 zl [] ?_;refine bZ ?_;refine aW 1 ?_;refine iY 1 rfl BS (HV _) ?_;rintro _ w98 ⟨rfl,avt⟩;refine ⟨_,rfl,?_⟩;have Ur:=zl.on avt;refine aJ 26 ?_;refine zN 7 ?_;refine vv (v:= .int .i64 ((q+1:Nat):Int)) gN ?_;refine zN 2 ?_;have pJ:=Ur.aR [1,0];refine aS (q+1) ?_ ⟨rfl,rfl,rfl,rfl,rfl,rfl,rfl,trivial⟩ (by first | omega | (dsimp only;omega));exact ⟨(by omega),pJ⟩
     have HV:=λw=>lC y2 w;rw [hv] at HV;by_cases dZ:y2.b.ep+1=y.b.ep
     ·have hcm:=I9 (.inl (Oi.1 hv)) dZ;refine zQ ?_;have AO:=pz.drew;refine aG 26 AO [] ?_;refine bZ ?_;refine aW 1 ?_;refine iY 1 rfl BS (HV _) ?_;rintro _ af8 ⟨rfl,ab0⟩;refine ⟨_,rfl,?_⟩;have xH:=AO.on ab0;refine aJ 9 ?_;refine jJ (v:= .int .i64 (y2.b.ep+1)) (i:=10) (n:=15) rfl (by kernel_rfl) (by kernel_rfl) (by kernel_rfl) xH rfl (wg rfl rfl rfl rfl) rfl rfl (λ_ _=>(aK rfl rfl rfl (yN (by omega) (by omega)))) ?_;refine aJ 12 ?_;refine aW 20 ?_;refine nQ (i:=20) rfl rfl (wg rfl rfl rfl rfl) rfl rfl (iB (vs:=[.slice y.A y.b.evs.length y.c,.slice y2.A y2.b.evs.length y2.c]) rfl afQ ⟨rfl,rfl,trivial⟩) (Ez _ _ _ _ _ _ _ _ _ ((hpp.bo y (List.mem_of_getElem? hy)).1.rd xH (memT 4 rfl pE)) ((sZ.bo y2 (List.mem_of_getElem? hy2)).1.rd xH (memT 4 rfl pE)) (by omega) (by omega)) ?_;rintro _ af4 ⟨rfl,avu⟩;refine ⟨_,rfl,?_⟩;have Ch:=xH.on avu;refine aJ 4 ?_;refine zN 7 ?_;refine vv (v:= .int .i64 ((q+1:Nat):Int)) gN ?_;refine zN 2 ?_;have zA:=Ch.aR [1,0];refine aS (q+1) ?_ ⟨rfl,rfl,rfl,rfl,rfl,rfl,rfl,trivial⟩ (by first | omega | (dsimp only;omega));exact ⟨(by omega),zA⟩
     refine zQ ?_;have yc:=pz.drew;refine aG 26 yc [] ?_;refine bZ ?_;refine aW 1 ?_;refine iY 1 rfl BS (HV _) ?_;rintro _ ar8 ⟨rfl,avv⟩;refine ⟨_,rfl,?_⟩;have K8:=yc.on avv;refine aJ 9 ?_;refine jJ (v:= .int .i64 (y2.b.ep+1)) (i:=10) (n:=15) rfl (by kernel_rfl) (by kernel_rfl) (by kernel_rfl) K8 rfl (wg rfl rfl rfl rfl) rfl rfl (λ_ _=>(aK rfl rfl rfl (yN (by omega) (by omega)))) ?_;refine aJ 16 ?_;refine zN 7 ?_;refine vv (v:= .int .i64 ((q+1:Nat):Int)) gN ?_;refine zN 2 ?_;have aae:=K8.aR [1,0];refine aS (q+1) ?_ ⟨rfl,rfl,rfl,rfl,rfl,rfl,rfl,trivial⟩ (by first | omega | (dsimp only;omega));exact ⟨(by omega),aae⟩
    refine zN 10 ?_;refine vv (v:= .int .i64 ((q+1:Nat):Int)) gN ?_;refine zN 2 ?_;have Ee:=lY.aR [0];refine aS (q+1) ?_ ⟨rfl,rfl,rfl,rfl,rfl,rfl,rfl,trivial⟩ (by first | omega | (dsimp only;omega));exact ⟨(by omega),Ee⟩
   refine zN 12 ?_;refine vv (v:= .int .i64 ((n+1:Nat):Int)) gN ?_;refine zN 2 ?_;refine aS (n+1) ?_ ⟨rfl,rfl,rfl,rfl,rfl,rfl,trivial⟩ (by first | omega | (dsimp only;omega));exact ⟨(by omega),sH⟩
  refine zN 12 ?_;refine vv (v:= .int .i64 ((i+1:Nat):Int)) gN ?_;refine zN 2 ?_;have amq:=lS.aR [0];refine aS (i+1) ?_ ⟨rfl,rfl,rfl,rfl,trivial⟩ (by first | omega | (dsimp only;omega));exact ⟨(by omega),amq⟩
 refine zN 17 ?_;exact ⟨rfl,gI.low⟩
section
variable {m:Cl} {q n k:Nat} {g:Gh}
theorem LW.pre (h:LW m q g k) (hn:n<5) (h4:((m.ah n).view q).role=4): ∃ f:Nat,f<5/\((m.ah n).view q).fr=((f:Nat):Int)/\
  (og ((m.ah f).view q)->((m.ah f).view q).ep+1=((m.ah n).view q).ep->iq ((m.ah n).view q).evs ((m.ah f).view q).evs=((m.ah n).view q).evs.length):=by
 have I:=h.qi;have hv: ∀ j,vw m q j=(m.ah j).view q:=λ_=>rfl;have hne:n≠g.o:=by
  rintro rfl;have:=I.arl;rw [hv] at this;omega
 have:=I.uN n hn hne;rw [hv] at this
 rcases this with ⟨h1,_⟩ | ⟨j,h1,_⟩ | ⟨j,_,h2,h3,h5,h6,h7,h8,_⟩
 ·omega
 ·omega
 refine ⟨g.own j,I.QV j h3 h5,h6,λhc he=>?_⟩;have ha:=I.zT;have hG:=I.KG;rw [hv] at ha hG
 rcases Nat.lt_or_ge j g.m with hj | hj
 ·have hno:g.own j≠g.o:=λe=>by rw [e] at he;omega
  have hO:=I.uN _ (I.QV j h3 h5) hno;rw [hv] at hO;have hb:g.bd j=g.len j:=if_neg (by omega)
  rcases hc with hc | hc
  ·exact absurd (h.aV (I.QV j h3 h5) hc).1 hno
  rcases hO with ⟨r,_⟩ | ⟨i,r1,r2,r3,r4,r5,r6,r7⟩ | ⟨i,r,_⟩
  ·omega
  ·obtain rfl:i=j:=by omega
   rw [r6,h7];exact wm (by omega)
  omega
 obtain rfl:j=g.m:=by omega
 rw [show g.own g.m=g.o from rfl,hG,h7];have:=wm (G:=g.G) (i:=((m.ah n).view q).evs.length) (j:=g.G.length) (by have:=I.aak h3 h5;omega);rwa [List.take_length] at this
end
theorem abK {gs:List Gr} {s:List Ac} (hs:s=bF gs 60 true): ∀ i n q,n<5->q<2->(((fG.run (s.take i)).ah n).view q).role=4-> ∃ f:Nat,f<5/\(((fG.run (s.take i)).ah n).view q).fr=((f:Nat):Int)/\(og (((fG.run (s.take i)).ah f).view q)->(((fG.run (s.take i)).ah f).view q).ep+1=(((fG.run (s.take i)).ah n).view q).ep->iq (((fG.run (s.take i)).ah n).view q).evs (((fG.run (s.take i)).ah f).view q).evs=(((fG.run (s.take i)).ah n).view q).evs.length):=by
 subst hs;intro i n q hn hq hr
 rcases Oo (gs:=gs) (m:=60) (cr:=true) (by decide) i hq with h | ⟨g,k,h⟩
 ·rcases h n with e | e<;>rw [e] at hr<;>cases hr
 exact h.pre hn hr
theorem Lm (W:World) (hu:Uk W.heap.size W) (args:Array Value) (h:dL (LA Tryz.prog W) args.toList Tryz.f5.params.toList):
  Calls Tryz.prog 5 args W λe W'=>e= .returned (.bool true)/\Below W.heap.size W W':=by
 rw [Tryz.params5] at h;obtain ⟨v,l1,hv,h1,h0⟩:=dL.vJ h;have h4:=dL.uQ h0;subst h4;obtain rfl:args= #[v]:=by cases args;simp_all
 obtain ⟨A,c,gs,rfl,hr,hg⟩:=Gl h1;exact Qw rfl hg (wh _ _ _) (by have:=Bv gs 60 true;omega) hu hr (abK rfl) (λi n q hn hq=>O7 gs (m:=60) (by decide) true (i:=i) hn (by omega))
end Go.Proofs.YthhnonpehllibaaGreatDoor
