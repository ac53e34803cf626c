import Derived.Test.YthhnonpehllibaaGreatDoorG49e00
import Derived.Test.YthhnonpehllibaaGreatDoorG86267
set_option maxRecDepth 100000
set_option maxHeartbeats 8000000
set_option linter.unusedSimpArgs false
set_option linter.unusedVariables false
namespace Go.Proofs.YthhnonpehllibaaGreatDoor
open ChangeShapes WideShapes RowKit
section
variable {m:Cl} {q o n:Nat} {a:Int} {one:Bool}
theorem xU.skip (h:xU m q o n a one) (hA:Au m q o) (hc: ¬ og ((m.ah n).view q)):xU m q o (n+1) a one:=by
 have hne:o≠n:=λe=>hc (e▸hA.me)
 rcases h with ⟨h1,h2⟩ | ⟨k,h1,h2,h3,h4,h5⟩
 ·exact .inl ⟨h1,λj hj=>(Nat.lt_succ_iff_lt_or_eq.1 hj).elim (h2 j) (λe=>e▸hc)⟩
 exact .inr ⟨k,h1,by omega,h3,λj hj hcj=>(Nat.lt_succ_iff_lt_or_eq.1 hj).elim (λh=>h4 j h hcj) (λe=>absurd (e▸hcj) hc),λh=>h5 (by omega)⟩
theorem xU.less {k:Nat} (h:xU m q o n ((k:Nat):Int) one) (hA:Au m q o) (hn:n<5) (hc:og ((m.ah n).view q)) (hg: ¬ ((m.ah k).view q).ep< ((m.ah n).view q).ep):(((m.ah n).view q).ep≠((m.ah k).view q).ep->xU m q o (n+1) ((k:Nat):Int) one)/\(((m.ah n).view q).ep=((m.ah k).view q).ep->xU m q o (n+1) ((k:Nat):Int) false):=by
 rcases h with ⟨h1,h2⟩ | ⟨k',h1,h2,h3,h4,h5⟩
 ·omega
 obtain rfl:k=k':=by omega
 have hno:o≠n:=by
  rintro rfl;have:=hA.uN k (by omega) (by omega) h3;omega
 refine ⟨λ_=> .inr ⟨k,rfl,by omega,h3,λj hj hcj=>(Nat.lt_succ_iff_lt_or_eq.1 hj).elim (λh=>h4 j h hcj) (λe=>by subst e;omega),λh=>h5 (by omega)⟩,λhe=> .inr ⟨k,rfl,by omega,h3,λj hj hcj=>(Nat.lt_succ_iff_lt_or_eq.1 hj).elim (λh=>h4 j h hcj) (λe=>by subst e;omega),λh=>?_⟩⟩;obtain ⟨rfl,_⟩:=h5 (by omega);have:=hA.uN n hn (λe=>hno e.symm) hc;omega
end
theorem Js {B:Nat} {w0 w:World} {fs L:List Fact} {m:Cl} {x:OX} {q o:Nat} (hq:q<4) (hA:Au m q o) (S:St B w0 w fs) (hX:Gj L m x) (pE: ∀ f∈L,f∈fs):
    Calls Tryz.prog 9 #[.agg #[.int .i64 ((x.fl:Nat):Int),.bool (x.U 0),.bool (x.U 1),.bool (x.U 2),.bool (x.U 3),.bool (x.U 4),.int .i64 x.d.p0.node,.int .i64 x.d.p0.epoch,.int .i64 x.d.p1.node,.int .i64 x.d.p1.epoch,.int .i64 x.d.p2.node,.int .i64 x.d.p2.epoch,.int .i64 x.d.p3.node,.int .i64 x.d.p3.epoch,.slice x.BA 5 x.bc,.slice x.sA x.sn x.sc,.slice x.tA x.tn x.tc,.int .i64 ((x.calls:Nat):Int)],.int .i64 ((q:Nat):Int)] w (λe w'=>e= .returned (.tuple #[.int .i64 ((o:Nat):Int),.bool true])/\St B w0 w' fs):=by
 refine gB 64 Tryz.func9 ?_;refine cw [0,1] ?_;refine zN 2 ?_;refine iK S ?_;intro b1 w2 S3;refine zN 5 ?_;obtain ⟨ps,hpl,Fz,hp1⟩:=hX.ps;obtain ⟨bA,oA,hBa⟩:=qA Fz S3 (memT 1 rfl pE) (by decide);refine zN 16 ?_;refine dW (X:=Nat×Int×Bool) (λxv=>[(1,.int .i64 ((q:Nat):Int)),(2,.pointer (some ⟨b1,0,none⟩)),(4,.int .i64 0),(5,.bool false),(6,.int .i64 xv.2.1),(7,.bool xv.2.2),(8,.int .i64 ((xv.1:Nat):Int))]) (λxv wr=>(xv.1<=5)/\(xU m q o xv.1 xv.2.1 xv.2.2)/\St B w0 wr ((.blk b1 #[.int .i64 ((x.fl:Nat):Int),.bool (x.U 0),.bool (x.U 1),.bool (x.U 2),.bool (x.U 3),.bool (x.U 4),.int .i64 x.d.p0.node,.int .i64 x.d.p0.epoch,.int .i64 x.d.p1.node,.int .i64 x.d.p1.epoch,.int .i64 x.d.p2.node,.int .i64 x.d.p2.epoch,.int .i64 x.d.p3.node,.int .i64 x.d.p3.epoch,.slice x.BA 5 x.bc,.slice x.sA x.sn x.sc,.slice x.tA x.tn x.tc,.int .i64 ((x.calls:Nat):Int)] 40)::fs)) (λxv=>5-xv.1) (0,(-1),true) ?_ ?_ ?_
 ·exact ⟨Nat.zero_le _,(.inl ⟨rfl,λj hj=>absurd hj (Nat.not_lt_zero _)⟩),S3⟩
 ·exact ⟨rfl,rfl,rfl,rfl,rfl,rfl,rfl,trivial⟩
 rintro ⟨n,a,one⟩ w4 ⟨Fu,vG,S5⟩
 try dsimp only at Fu vG S5
 refine bC (l':=[(1,.int .i64 ((q:Nat):Int)),(2,.pointer (some ⟨b1,0,none⟩)),(4,.int .i64 0),(5,.bool false),(6,.int .i64 a),(7,.bool one),(8,.int .i64 ((n:Nat):Int))]) ⟨rfl,rfl,rfl,rfl,rfl,rfl,rfl,trivial⟩ (aQ (aQ (aC (vm ?_))));refine zN 3 ?_;by_cases h8:((n:Nat):Int)<5
 ·refine zN 9 ?_;obtain ⟨p,hp⟩: ∃ p,ps[n]? =some p:=⟨_,List.getElem?_eq_getElem (by omega)⟩;have hpp:=hp1 _ _ hp;obtain ⟨y,hy,hyb⟩:=FB hpp (q:=q) (by omega);refine zN 4 ?_;refine vv (v:= .pointer (some ⟨bA,oA+n*1,none⟩)) (aT rfl rfl rfl (dK n hBa Tryz.underlying36 tX rfl (by omega))) ?_;refine vv (v:= .slice (some ⟨p.1,0,none⟩) 4 4) (aj rfl rfl (ay Tryz.underlying44 rfl (gu Fz hBa S5 (memT 1 rfl pE) (bg (enc:=gy) (sz:=1) (k:=n) (j:=0) (λ_=>rfl) hp rfl)))) ?_;refine zQ ?_;refine vv (jh q) ?_;refine vv (v:= .agg #[.int .i64 y.b.role,.int .i64 y.b.ep,.int .i64 y.b.fr,.int .i64 y.b.tg,.int .i64 y.b.rd,.slice y.A y.b.evs.length y.c]) (aj rfl rfl (aA (cs:=BX.cells y) Tryz.underlying43 rfl aB rfl (λj u hu=>by rw [Nat.add_assoc];exact gu hpp.rd rfl S5 (memT 1 rfl pE) (bg (enc:=BX.cells) (sz:=6) (k:=q) (λ_=>rfl) hy hu)))) ?_;refine fF S5 fD ?_;intro b9 Yo qj;refine sa 0 qj aB ?_;intro Zl wu;refine zN 6 ?_
  rcases VQ:Sw y.b with _ | _
  ·have hns: ¬ serves y.b:=λhh=>by rw [Oi.2 hh] at VQ;cases VQ
   by_cases hr3:y.b.role=3
   ·have hcd:og ((m.ah n).view q):=by rw [<-hyb];exact .inr hr3
    have HV:=λw=>lC y w;rw [VQ] at HV;refine cab BS wu (HV _) ?_;intro G8 kQ;refine zN 11 ?_
    rcases Int.lt_or_le a 0 with hneg | hneg
    ·refine zQ ?_;refine fu kQ mixed (by kernel_rfl) ?_;refine zN 16 ?_;refine eO λw22 nU=>?_;refine zN 15 ?_;refine vv (v:= .int .i64 ((n+1:Nat):Int)) gN ?_;refine zN 2 ?_;have jw:=nU.aR [0];refine aS (n+1,((n:Nat):Int),true) ?_ ⟨rfl,rfl,rfl,rfl,rfl,rfl,rfl,trivial⟩ (by first | omega | (dsimp only;omega));exact ⟨(by omega),(xU.first vG hA hneg hcd),jw⟩
    obtain ⟨k,rfl⟩:=Int.eq_ofNat_of_zero_le hneg;have hk5:k<5:=by rcases vG with ⟨e,_⟩ | ⟨k2,e,hk2,_⟩<;>omega
    obtain ⟨p2,hp2⟩: ∃ p,ps[k]? =some p:=⟨_,List.getElem?_eq_getElem (by omega)⟩;have sZ:=hp1 _ _ hp2;obtain ⟨y2,hy2,u7⟩:=FB sZ (q:=q) (by omega);refine zQ ?_;refine fu kQ mixed (by kernel_rfl) ?_;refine zQ ?_;by_cases h26:((k:Nat):Int)<0
    ·refine zN 15 ?_;refine eO λRu kU=>?_;refine zN 15 ?_;refine vv (v:= .int .i64 ((n+1:Nat):Int)) gN ?_;refine zN 2 ?_;have o8:=kU.aR [0];refine aS (n+1,((n:Nat):Int),true) ?_ ⟨rfl,rfl,rfl,rfl,rfl,rfl,rfl,trivial⟩ (by first | omega | (dsimp only;omega));exact ⟨(by omega),(xU.more vG hA (by omega) hcd (by rw [<-hyb,<-u7];omega)),o8⟩
    refine zN 7 ?_;refine ug (v:= .pointer (some ⟨bA,oA+k*1,none⟩)) (λ_ _=>(aT rfl rfl rfl (dK k hBa Tryz.underlying36 tX rfl (by omega)))) ?_;refine ug (v:= .slice (some ⟨p2.1,0,none⟩) 4 4) (λ_ aml=>(aj rfl rfl (ay Tryz.underlying44 rfl (gu Fz hBa aml (memT 2 rfl pE) (bg (enc:=gy) (sz:=1) (k:=k) (j:=0) (λ_=>rfl) hp2 rfl))))) ?_;refine zQ ?_;refine ug (λ_ _=>jh q) ?_;refine zQ ?_;refine ug (v:= .int .i64 y2.b.ep) (λ_ aCm=>(aj rfl rfl (ay Tryz.underlying3 rfl (by rw [Nat.add_assoc];exact gu sZ.rd rfl aCm (memT 2 rfl pE) (bg (enc:=BX.cells) (sz:=6) (k:=q) (j:=1) (λ_=>rfl) hy2 rfl))))) ?_;by_cases h46:y2.b.ep<y.b.ep
    ·refine zN 2 ?_;refine eO λZh vO=>?_;refine zN 15 ?_;refine vv (v:= .int .i64 ((n+1:Nat):Int)) gN ?_;refine zN 2 ?_;have tZ:=vO.aR [0];refine aS (n+1,((n:Nat):Int),true) ?_ ⟨rfl,rfl,rfl,rfl,rfl,rfl,rfl,trivial⟩ (by first | omega | (dsimp only;omega));exact ⟨(by omega),(xU.more vG hA (by omega) hcd (by rw [<-hyb,<-u7];omega)),tZ⟩
    refine zN 2 ?_;refine eO λZG uK=>?_;refine zN 3 ?_;refine fu uK mixed (by kernel_rfl) ?_;refine zN 5 ?_;refine uv (v:= .pointer (some ⟨bA,oA+k*1,none⟩)) (λ_ _=>(aT rfl rfl rfl (dK k hBa Tryz.underlying36 tX rfl (by omega)))) ?_;refine uv (v:= .slice (some ⟨p2.1,0,none⟩) 4 4) (λ_ aCn=>(aj rfl rfl (ay Tryz.underlying44 rfl (gu Fz hBa aCn (memT 2 rfl pE) (bg (enc:=gy) (sz:=1) (k:=k) (j:=0) (λ_=>rfl) hp2 rfl))))) ?_;refine zQ ?_;refine uv (λ_ _=>jh q) ?_;refine zQ ?_;refine uv (v:= .int .i64 y2.b.ep) (λ_ amm=>(aj rfl rfl (ay Tryz.underlying3 rfl (by rw [Nat.add_assoc];exact gu sZ.rd rfl amm (memT 2 rfl pE) (bg (enc:=BX.cells) (sz:=6) (k:=q) (j:=1) (λ_=>rfl) hy2 rfl))))) ?_;by_cases AV:y.b.ep=y2.b.ep
    ·refine zQ ?_;refine eO λw69 qc=>?_;refine zN 9 ?_;refine vv (v:= .int .i64 ((n+1:Nat):Int)) gN ?_;refine zN 2 ?_;have rE:=qc.aR [0];refine aS (n+1,((k:Nat):Int),false) ?_ ⟨rfl,rfl,rfl,rfl,rfl,rfl,rfl,trivial⟩ (by first | omega | (dsimp only;omega));exact ⟨(by omega),((xU.less vG hA (by omega) hcd (by rw [<-hyb,<-u7];omega)).2 (by rw [<-hyb,<-u7];omega)),rE⟩
    refine zQ ?_;refine eO λw73 GV=>?_;refine zN 7 ?_;refine vv (v:= .int .i64 ((n+1:Nat):Int)) gN ?_;refine zN 2 ?_;have AL:=GV.aR [0];refine aS (n+1,((k:Nat):Int),one) ?_ ⟨rfl,rfl,rfl,rfl,rfl,rfl,rfl,trivial⟩ (by first | omega | (dsimp only;omega));exact ⟨(by omega),((xU.less vG hA (by omega) hcd (by rw [<-hyb,<-u7];omega)).1 (by rw [<-hyb,<-u7];omega)),AL⟩
   have hcd: ¬ og ((m.ah n).view q):=by rw [<-hyb];exact λhh=>hh.elim hns hr3
   have HV:=λw=>lC y w;rw [VQ] at HV;refine cab BS wu (HV _) ?_;intro w76 CB;refine zN 15 ?_;refine vv (v:= .int .i64 ((n+1:Nat):Int)) gN ?_;refine zN 2 ?_;have AQ:=CB.aR [0];refine aS (n+1,a,one) ?_ ⟨rfl,rfl,rfl,rfl,rfl,rfl,rfl,trivial⟩ (by first | omega | (dsimp only;omega));exact ⟨(by omega),(xU.skip vG hA hcd),AQ⟩
  have hcd:og ((m.ah n).view q):=by rw [<-hyb];exact .inl (Oi.1 VQ)
  have HV:=λw=>lC y w;rw [VQ] at HV;refine cab BS wu (HV _) ?_;intro w80 sF;refine zN 11 ?_
  rcases Int.lt_or_le a 0 with hneg | hneg
  ·refine zQ ?_;refine fu sF mixed (by kernel_rfl) ?_;refine zN 16 ?_;refine eO λw87 Jj=>?_;refine zN 15 ?_;refine vv (v:= .int .i64 ((n+1:Nat):Int)) gN ?_;refine zN 2 ?_;have Jc:=Jj.aR [0];refine aS (n+1,((n:Nat):Int),true) ?_ ⟨rfl,rfl,rfl,rfl,rfl,rfl,rfl,trivial⟩ (by first | omega | (dsimp only;omega));exact ⟨(by omega),(xU.first vG hA hneg hcd),Jc⟩
  obtain ⟨k,rfl⟩:=Int.eq_ofNat_of_zero_le hneg;have hk5:k<5:=by rcases vG with ⟨e,_⟩ | ⟨k2,e,hk2,_⟩<;>omega
  obtain ⟨p2,hp2⟩: ∃ p,ps[k]? =some p:=⟨_,List.getElem?_eq_getElem (by omega)⟩;have sZ:=hp1 _ _ hp2;obtain ⟨y2,hy2,u7⟩:=FB sZ (q:=q) (by omega);refine zQ ?_;refine fu sF mixed (by kernel_rfl) ?_;refine zQ ?_;by_cases Fa:((k:Nat):Int)<0
  ·refine zN 15 ?_;refine eO λw95 zl=>?_;refine zN 15 ?_;refine vv (v:= .int .i64 ((n+1:Nat):Int)) gN ?_;refine zN 2 ?_;have CO:=zl.aR [0];refine aS (n+1,((n:Nat):Int),true) ?_ ⟨rfl,rfl,rfl,rfl,rfl,rfl,rfl,trivial⟩ (by first | omega | (dsimp only;omega));exact ⟨(by omega),(xU.more vG hA (by omega) hcd (by rw [<-hyb,<-u7];omega)),CO⟩
  refine zN 7 ?_;refine ug (v:= .pointer (some ⟨bA,oA+k*1,none⟩)) (λ_ _=>(aT rfl rfl rfl (dK k hBa Tryz.underlying36 tX rfl (by omega)))) ?_;refine ug (v:= .slice (some ⟨p2.1,0,none⟩) 4 4) (λ_ avp=>(aj rfl rfl (ay Tryz.underlying44 rfl (gu Fz hBa avp (memT 2 rfl pE) (bg (enc:=gy) (sz:=1) (k:=k) (j:=0) (λ_=>rfl) hp2 rfl))))) ?_;refine zQ ?_;refine ug (λ_ _=>jh q) ?_;refine zQ ?_;refine ug (v:= .int .i64 y2.b.ep) (λ_ avq=>(aj rfl rfl (ay Tryz.underlying3 rfl (by rw [Nat.add_assoc];exact gu sZ.rd rfl avq (memT 2 rfl pE) (bg (enc:=BX.cells) (sz:=6) (k:=q) (j:=1) (λ_=>rfl) hy2 rfl))))) ?_;by_cases Cr:y2.b.ep<y.b.ep
  ·refine zN 2 ?_;refine eO λaf3 nY=>?_;refine zN 15 ?_;refine vv (v:= .int .i64 ((n+1:Nat):Int)) gN ?_;refine zN 2 ?_;have sP:=nY.aR [0];refine aS (n+1,((n:Nat):Int),true) ?_ ⟨rfl,rfl,rfl,rfl,rfl,rfl,rfl,trivial⟩ (by first | omega | (dsimp only;omega));exact ⟨(by omega),(xU.more vG hA (by omega) hcd (by rw [<-hyb,<-u7];omega)),sP⟩
  refine zN 2 ?_;refine eO λalx oF=>?_;refine zN 3 ?_;refine fu oF mixed (by kernel_rfl) ?_;refine zN 5 ?_;refine uv (v:= .pointer (some ⟨bA,oA+k*1,none⟩)) (λ_ _=>(aT rfl rfl rfl (dK k hBa Tryz.underlying36 tX rfl (by omega)))) ?_;refine uv (v:= .slice (some ⟨p2.1,0,none⟩) 4 4) (λ_ avr=>(aj rfl rfl (ay Tryz.underlying44 rfl (gu Fz hBa avr (memT 2 rfl pE) (bg (enc:=gy) (sz:=1) (k:=k) (j:=0) (λ_=>rfl) hp2 rfl))))) ?_;refine zQ ?_;refine uv (λ_ _=>jh q) ?_;refine zQ ?_;refine uv (v:= .int .i64 y2.b.ep) (λ_ avs=>(aj rfl rfl (ay Tryz.underlying3 rfl (by rw [Nat.add_assoc];exact gu sZ.rd rfl avs (memT 2 rfl pE) (bg (enc:=BX.cells) (sz:=6) (k:=q) (j:=1) (λ_=>rfl) hy2 rfl))))) ?_;by_cases aAJ:y.b.ep=y2.b.ep
  ·refine zQ ?_;refine eO λaf4 Ch=>?_;refine zN 9 ?_;refine vv (v:= .int .i64 ((n+1:Nat):Int)) gN ?_;refine zN 2 ?_;have AP:=Ch.aR [0];refine aS (n+1,((k:Nat):Int),false) ?_ ⟨rfl,rfl,rfl,rfl,rfl,rfl,rfl,trivial⟩ (by first | omega | (dsimp only;omega));exact ⟨(by omega),((xU.less vG hA (by omega) hcd (by rw [<-hyb,<-u7];omega)).2 (by rw [<-hyb,<-u7];omega)),AP⟩
  refine zQ ?_;refine eO λaq3 zA=>?_;refine zN 7 ?_;refine vv (v:= .int .i64 ((n+1:Nat):Int)) gN ?_;refine zN 2 ?_;have yc:=zA.aR [0];refine aS (n+1,((k:Nat):Int),one) ?_ ⟨rfl,rfl,rfl,rfl,rfl,rfl,rfl,trivial⟩ (by first | omega | (dsimp only;omega));exact ⟨(by omega),((xU.less vG hA (by omega) hcd (by rw [<-hyb,<-u7];omega)).1 (by rw [<-hyb,<-u7];omega)),yc⟩
 refine zN 19 ?_;obtain rfl:n=5:=by omega
 obtain ⟨rfl,rfl⟩:=xU.done vG hA;have alg:=S5.aR [0];exact ⟨rfl,alg⟩
theorem afK {x:OX} {q:Nat} (hq:q<4): ∀ (j:Nat) (u:Value),[Value.int .i64 (x.d.at q).node,Value.int .i64 (x.d.at q).epoch][j]? =some u->x.cells[6+q*2+j]? =some u:=by
 have:q=0\/q=1\/q=2\/q=3:=by omega
 intro j u h
 match j with
 | 0=>rcases this with rfl | rfl | rfl | rfl<;>exact h
 | 1=>rcases this with rfl | rfl | rfl | rfl<;>exact h
 | j+2=>simp at h
theorem Jt {gs:List Gr} {s:List Ac} {A:Option Addr} {c:Nat} {w:World} (hs:s=bF gs 60 true) (hg: ∀ g∈gs,g.ok) (h0: ∀ a∈s,dH a=0) (hsl:s.length<=1000) (hu:Uk w.heap.size w) (h:Rd w w.heap.size 5 A gs.length (gs.flatMap Gr.cells)) (hs2:2<=s.length) (hau: ∀ i q,2<=i->q<2-> ∃ o,Au (fG.run (s.take i)) q o/\1<=((fG.run (s.take i)).off.at q).epoch/\((fG.run (s.take i)).off.at q).epoch<=1048576/\((((fG.run (s.take i)).ah o).view q).ep=((fG.run (s.take i)).off.at q).epoch/\((o:Nat):Int)=((fG.run (s.take i)).off.at q).node\/(((fG.run (s.take i)).ah o).view q).ep=((fG.run (s.take i)).off.at q).epoch+1)):
    Calls Tryz.prog 3 #[.slice A gs.length c] w (λe w'=>e= .returned (.bool true)/\Below w.heap.size w w'):=by
 have S:=(St.start w).bV h;refine gB 91 Tryz.func3 ?_;refine cw [0] ?_;refine zN 8 ?_;refine dI ak7 (Ew (m:=60) hs (by decide) hg _ ((St.rd 0 S rfl))) ?_;rintro _ w3 ⟨A1,c2,rfl,T5⟩;refine ⟨_,rfl,?_⟩;have S4:=S.ext T5 rfl;refine dI ak6 (u6 (by omega) (dx (S4.own 0 rfl)).1 h0 S4 hu (Ro.own (List.mem_of_getElem? (i:=0) rfl))) ?_;rintro _ w6 ⟨Qv,L9,wD,c11,rfl,ak2,abI,S7⟩;refine ⟨_,rfl,?_⟩;refine zN 14 ?_;refine dW (X:=Nat) (λxv=>[(2,.bool false),(3,.slice wD (s.length+1) c11),(4,.bool true),(5,.int .i64 ((xv:Nat):Int))]) (λxv wr=>(2<=xv)/\(xv<=s.length+1)/\St w.heap.size w wr ((.own 40 18 (.slice wD (s.length+1) c11) (s.length+1) ((Qv).flatMap OX.cells))::(L9++[.own 57 11 (.slice A1 s.length c2) s.length ((s).flatMap Ac.cells),.rd 5 A gs.length ((gs).flatMap Gr.cells)]))) (λxv=>s.length+1-xv) (2) ?_ ?_ ?_
 ·exact ⟨(Nat.le_refl 2),(by omega),S7⟩
 ·exact ⟨rfl,rfl,rfl,rfl,trivial⟩
 rintro i Jk ⟨abJ,aCo,gI⟩
 try dsimp only at abJ aCo gI
 refine bC (l':=[(2,.bool false),(3,.slice wD (s.length+1) c11),(4,.bool true),(5,.int .i64 ((i:Nat):Int))]) ⟨rfl,rfl,rfl,rfl,trivial⟩ (aQ (aQ (aC (vm ?_))));refine zN 2 ?_;by_cases h18:((i:Nat):Int)< ((s.length+1:Nat):Int)
 ·refine zN 9 ?_;obtain ⟨x,hx⟩: ∃ x,Qv[i]? =some x:=⟨_,List.getElem?_eq_getElem (by omega)⟩;have hX:=abI _ _ hx;obtain ⟨ps,hpl,Fz,hp1⟩:=hX.ps;have pE: ∀ f∈L9,f∈(L9++[.own 57 11 (.slice A1 s.length c2) s.length ((s).flatMap Ac.cells),.rd 5 A gs.length ((gs).flatMap Gr.cells)]):=λf h=>List.mem_append_left _ h;obtain ⟨bA,oA,hBa⟩:=qA Fz gI (memT 1 rfl pE) (by decide);refine zN 5 ?_;refine dW (X:=Nat) (λxv=>[(2,.bool false),(3,.slice wD (s.length+1) c11),(4,.bool true),(5,.int .i64 ((i:Nat):Int)),(6,.int .i64 ((xv:Nat):Int))]) (λxv wr=>(xv<=2)/\St w.heap.size w wr ((.own 40 18 (.slice wD (s.length+1) c11) (s.length+1) ((Qv).flatMap OX.cells))::(L9++[.own 57 11 (.slice A1 s.length c2) s.length ((s).flatMap Ac.cells),.rd 5 A gs.length ((gs).flatMap Gr.cells)]))) (λxv=>2-xv) (0) ?_ ?_ ?_
  ·exact ⟨Nat.zero_le _,gI⟩
  ·exact ⟨rfl,rfl,rfl,rfl,rfl,trivial⟩
  rintro q FX ⟨hi21,lQ⟩
  try dsimp only at hi21 lQ
  refine bC (l':=[(2,.bool false),(3,.slice wD (s.length+1) c11),(4,.bool true),(5,.int .i64 ((i:Nat):Int)),(6,.int .i64 ((q:Nat):Int))]) ⟨rfl,rfl,rfl,rfl,rfl,trivial⟩ (aQ (aQ (aC (vm ?_))));by_cases h22:((q:Nat):Int)<2
  ·refine zN 9 ?_;obtain ⟨o,hA,hd1,hd2,I9⟩:=hau i q (by omega) (by omega);have ho5:=hA.lt;refine zN 3 ?_;obtain ⟨yV,o24,rfl⟩:=Rd.addr (St.ord 0 lQ rfl) (by omega);refine vv (jh i) ?_;refine vv (aj rfl rfl (aA (cs:=OX.cells x) Tryz.underlying40 rfl tV rfl (Rd.vM (St.ord 0 lQ rfl) (λ_ _ h=>bg (enc:=OX.cells) (sz:=18) (λ_=>rfl) hx h)))) ?_;refine zQ ?_;refine dI aCl (Js (by omega) hA lQ hX (memT 1 rfl pE)) ?_;rintro _ w25 ⟨rfl,lS⟩;refine ⟨_,rfl,?_⟩;refine zN 12 ?_;refine vv (jh i) ?_;refine zQ ?_;refine vv (vN (o24+i*18+6) apx) ?_;refine vv (v:= .pointer (some ⟨yV,o24+i*18+6+q*2,none⟩)) (aT rfl rfl rfl (eZ q Tryz.underlying33 iM rfl (by omega))) ?_;refine vv (v:= .agg #[.int .i64 ((x.d.at q).node),.int .i64 ((x.d.at q).epoch)]) (aj rfl rfl (aA (cs:=[.int .i64 ((x.d.at q).node),.int .i64 ((x.d.at q).epoch)]) Tryz.underlying32 rfl iM rfl (λj u hu=>by rw [show o24+i*18+6+q*2+j=o24+i*18+(6+q*2+j) by omega];exact Rd.XL (i:=6+q*2+j) (St.ord 0 lS rfl) (bg (enc:=OX.cells) (sz:=18) (λ_=>rfl) hx (afK (by omega) j u hu))))) ?_;refine fF lS D7 ?_;intro b27 Yb sD;refine stA 0 sD iM ?_;intro Ru kU;refine zN 17 ?_;obtain ⟨p,hp⟩: ∃ p,ps[o]? =some p:=⟨_,List.getElem?_eq_getElem (by omega)⟩;have hpp:=hp1 _ _ hp;obtain ⟨y,hy,hyb⟩:=FB hpp (q:=q) (by omega);rw [<-hX.d,<-hyb] at I9;rw [<-hX.d] at hd1 hd2;refine zN 3 ?_;refine vv (jh i) ?_;refine zQ ?_;refine vv (aj rfl rfl (ay Tryz.underlying36 rfl (Rd.XL (i:=14) (St.ord 1 kU rfl) (bg (enc:=OX.cells) (sz:=18) (λ_=>rfl) hx rfl)))) ?_;refine zQ ?_;refine vv (v:= .pointer (some ⟨bA,oA+o*1,none⟩)) (aT rfl rfl rfl (dK o hBa Tryz.underlying36 tX rfl (by omega))) ?_;refine vv (v:= .slice (some ⟨p.1,0,none⟩) 4 4) (aj rfl rfl (ay Tryz.underlying44 rfl (gu Fz hBa kU (memT 2 rfl pE) (bg (enc:=gy) (sz:=1) (k:=o) (j:=0) (λ_=>rfl) hp rfl)))) ?_;refine zQ ?_;refine vv (jh q) ?_;refine zQ ?_;refine vv (v:= .int .i64 y.b.ep) (aj rfl rfl (ay Tryz.underlying3 rfl (by rw [Nat.add_assoc];exact gu hpp.rd rfl kU (memT 2 rfl pE) (bg (enc:=BX.cells) (sz:=6) (k:=q) (j:=1) (λ_=>rfl) hy rfl)))) ?_;refine zN 4 ?_
   rcases I9 with ⟨hle,hln⟩ | hle
   ·refine zN 32 ?_;refine vv (v:= .int .i64 ((q+1:Nat):Int)) gN ?_;refine zN 2 ?_;have o8:=kU.aR [0];refine aS (q+1) ?_ ⟨rfl,rfl,rfl,rfl,rfl,trivial⟩ (by first | omega | (dsimp only;omega));exact ⟨(by omega),o8⟩
   refine zN 9 ?_;refine vg (v:= .int .i64 (((x.d.at q).epoch)+1)) gN ?_;refine zN 22 ?_;refine vv (v:= .int .i64 ((q+1:Nat):Int)) gN ?_;refine zN 2 ?_;have qm:=kU.aR [0];refine aS (q+1) ?_ ⟨rfl,rfl,rfl,rfl,rfl,trivial⟩ (by first | omega | (dsimp only;omega));exact ⟨(by omega),qm⟩
  refine zN 12 ?_;refine vv (v:= .int .i64 ((i+1:Nat):Int)) gN ?_;refine zN 2 ?_;refine aS (i+1) ?_ ⟨rfl,rfl,rfl,rfl,trivial⟩ (by first | omega | (dsimp only;omega));exact ⟨(by omega),(by omega),lQ⟩
 refine zN 22 ?_;exact ⟨rfl,gI.low⟩
section
variable {m:Cl} {q n k:Nat} {g:Gh}
theorem LW.auth (h:LW m q g k):Au m q g.o:=by
 have I:=h.qi;have h1:=I.arl;have h2:=I.zT;unfold vw at h1 h2;refine ⟨I.o5,?_,λn hn hne hc=>?_⟩
 ·unfold og serves;omega
 rcases hc with hc | hc
 ·exact absurd (h.aV hn hc).1 hne
 obtain ⟨h3,h4⟩:=h.ak1 hn hc;have:((m.ah n).view q).ep≠g.m:=λe=>hne (h4 e);omega
end
theorem afL {gs:List Gr} {m:Nat} {cr:Bool} (hm:m<=500) {i q:Nat} (hi:2<=i) (hq:q<2): ∃ o,Au (fG.run ((bF gs m cr).take i)) q o/\1<=((fG.run ((bF gs m cr).take i)).off.at q).epoch/\
  ((((fG.run ((bF gs m cr).take i)).ah o).view q).ep=((fG.run ((bF gs m cr).take i)).off.at q).epoch/\((o:Nat):Int)=((fG.run ((bF gs m cr).take i)).off.at q).node\/(((fG.run ((bF gs m cr).take i)).ah o).view q).ep=((fG.run ((bF gs m cr).take i)).off.at q).epoch+1):=by
 obtain ⟨g,g',k,k',_,h2,_⟩:=KT (gs:=gs) (cr:=cr) hm hi (Nat.le_refl i) hq;obtain ⟨d,hd,h1,h3⟩:=h2.qi.dir;have h4:=h2.qi.zT;unfold vw at h4;refine ⟨g'.o,h2.auth,?_⟩;rw [hd,h4];refine ⟨by show (1:Int)<=(d:Int);omega,?_⟩
 rcases h3 with h3 | h3
 ·subst h3;exact .inl ⟨rfl,rfl⟩
 right;show (g'.m:Int)=(d:Int)+1;omega
theorem MG (gs:List Gr):2<=(bF gs 60 true).length:=by
 unfold bF mks;simp
theorem ajC {gs:List Gr} {s:List Ac} (hs:s=bF gs 60 true): ∀ i q,2<=i->q<2-> ∃ o,Au (fG.run (s.take i)) q o/\1<=((fG.run (s.take i)).off.at q).epoch/\((fG.run (s.take i)).off.at q).epoch<=1048576/\((((fG.run (s.take i)).ah o).view q).ep=((fG.run (s.take i)).off.at q).epoch/\((o:Nat):Int)=((fG.run (s.take i)).off.at q).node\/(((fG.run (s.take i)).ah o).view q).ep=((fG.run (s.take i)).off.at q).epoch+1):=by
 subst hs;intro i q hi hq;obtain ⟨o,h1,h2,h3⟩:=afL (gs:=gs) (m:=60) (cr:=true) (by decide) hi hq;have:=O7 gs (m:=60) (by decide) true (i:=i) (q:=q) h1.lt (by omega);exact ⟨o,h1,h2,by omega,h3⟩
theorem FJ (W:World) (hu:Uk W.heap.size W) (args:Array Value) (h:dL (LA Tryz.prog W) args.toList Tryz.f3.params.toList):
  Calls Tryz.prog 3 args W λe W'=>e= .returned (.bool true)/\Below W.heap.size W W':=by
 rw [Tryz.params3] at h;obtain ⟨v,l1,hv,h1,h0⟩:=dL.vJ h;have h4:=dL.uQ h0;subst h4;obtain rfl:args= #[v]:=by cases args;simp_all
 obtain ⟨A,c,gs,rfl,hr,hg⟩:=Gl h1;exact Jt rfl hg (wh _ _ _) (by have:=Bv gs 60 true;omega) hu hr (MG gs) (ajC rfl)
end Go.Proofs.YthhnonpehllibaaGreatDoor
