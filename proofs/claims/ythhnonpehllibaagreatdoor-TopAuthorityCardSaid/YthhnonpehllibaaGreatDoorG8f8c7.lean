import Derived.Test.YthhnonpehllibaaGreatDoorG84e20
import Derived.Test.YthhnonpehllibaaGreatDoorGfd7d0
set_option maxRecDepth 100000
set_option maxHeartbeats 8000000
namespace Go.Proofs.YthhnonpehllibaaGreatDoor
open ChangeShapes WideShapes RowKit
section
variable {m:Cl} {q o n:Nat} {a:Int} {one:Bool}
theorem xX.skip (h:xX m q o n a one) (hA:AO m q o) (hc: ¬ om ((m.ah n).view q)):xX m q o (n+1) a one:=by
 have hne:o≠n:=λe=>hc (e▸hA.me)
 rcases h with ⟨h1,h2⟩ | ⟨k,h1,h2,h3,h4,h5⟩
 ·exact .inl ⟨h1,λj hj=>(Nat.lt_succ_iff_lt_or_eq.1 hj).elim (h2 j) (λe=>e▸hc)⟩
 exact .inr ⟨k,h1,by omega,h3,λj hj hcj=>(Nat.lt_succ_iff_lt_or_eq.1 hj).elim (λh=>h4 j h hcj) (λe=>absurd (e▸hcj) hc),λh=>h5 (by omega)⟩
theorem xX.less {k:Nat} (h:xX m q o n ((k:Nat):Int) one) (hA:AO m q o) (hn:n<5) (hc:om ((m.ah n).view q)) (hg: ¬ ((m.ah k).view q).ep< ((m.ah n).view q).ep):(((m.ah n).view q).ep≠((m.ah k).view q).ep->xX m q o (n+1) ((k:Nat):Int) one)/\(((m.ah n).view q).ep=((m.ah k).view q).ep->xX m q o (n+1) ((k:Nat):Int) false):=by
 rcases h with ⟨h1,h2⟩ | ⟨k',h1,h2,h3,h4,h5⟩
 ·omega
 obtain rfl:k=k':=by omega
 have hno:o≠n:=by
  rintro rfl;have:=hA.uU k (by omega) (by omega) h3;omega
 refine ⟨λ_=> .inr ⟨k,rfl,by omega,h3,λj hj hcj=>(Nat.lt_succ_iff_lt_or_eq.1 hj).elim (λh=>h4 j h hcj) (λe=>by subst e;omega),λh=>h5 (by omega)⟩,λhe=> .inr ⟨k,rfl,by omega,h3,λj hj hcj=>(Nat.lt_succ_iff_lt_or_eq.1 hj).elim (λh=>h4 j h hcj) (λe=>by subst e;omega),λh=>?_⟩⟩;obtain ⟨rfl,_⟩:=h5 (by omega);have:=hA.uU n hn (λe=>hno e.symm) hc;omega
end
theorem JE {B:Nat} {w0 w:World} {fs L:List Fact} {m:Cl} {x:OX} {q o:Nat} (hq:q<4) (hA:AO m q o) (S:St B w0 w fs) (hX:Gy L m x) (nQ: ∀ f∈L,f∈fs):
    Calls Tryz.prog 9 #[.agg #[.int .i64 ((x.fl:Nat):Int),.bool (x.U 0),.bool (x.U 1),.bool (x.U 2),.bool (x.U 3),.bool (x.U 4),.int .i64 x.d.p0.node,.int .i64 x.d.p0.epoch,.int .i64 x.d.p1.node,.int .i64 x.d.p1.epoch,.int .i64 x.d.p2.node,.int .i64 x.d.p2.epoch,.int .i64 x.d.p3.node,.int .i64 x.d.p3.epoch,.slice x.BA 5 x.bc,.slice x.sA x.sn x.sc,.slice x.tA x.tn x.tc,.int .i64 ((x.calls:Nat):Int)],.int .i64 ((q:Nat):Int)] w (λe w'=>e= .returned (.tuple #[.int .i64 ((o:Nat):Int),.bool true])/\St B w0 w' fs):=by
 refine gu 64 Tryz.func9 ?_;refine cw [0,1] ?_;refine zN 2 ?_;refine iK S ?_;intro b1 w2 S3;refine zN 5 ?_;obtain ⟨ps,hpl,Cj,hp1⟩:=hX.ps;obtain ⟨bA,oA,hBa⟩:=pF Cj S3 (memT 1 rfl nQ) (by decide);refine zN 16 ?_;refine dN (X:=Nat×Int×Bool) (λxv=>[(1,.int .i64 ((q:Nat):Int)),(2,.pointer (some ⟨b1,0,none⟩)),(4,.int .i64 0),(5,.bool false),(6,.int .i64 xv.2.1),(7,.bool xv.2.2),(8,.int .i64 ((xv.1:Nat):Int))]) (λxv wr=>(xv.1<=5)/\(xX m q o xv.1 xv.2.1 xv.2.2)/\St B w0 wr ((.blk b1 #[.int .i64 ((x.fl:Nat):Int),.bool (x.U 0),.bool (x.U 1),.bool (x.U 2),.bool (x.U 3),.bool (x.U 4),.int .i64 x.d.p0.node,.int .i64 x.d.p0.epoch,.int .i64 x.d.p1.node,.int .i64 x.d.p1.epoch,.int .i64 x.d.p2.node,.int .i64 x.d.p2.epoch,.int .i64 x.d.p3.node,.int .i64 x.d.p3.epoch,.slice x.BA 5 x.bc,.slice x.sA x.sn x.sc,.slice x.tA x.tn x.tc,.int .i64 ((x.calls:Nat):Int)] 40)::fs)) (λxv=>5-xv.1) (0,(-1),true) ?_ ?_ ?_
 ·exact ⟨Nat.zero_le _,(.inl ⟨rfl,λj hj=>absurd hj (Nat.not_lt_zero _)⟩),S3⟩
 ·exact ⟨rfl,rfl,rfl,rfl,rfl,rfl,rfl,trivial⟩
 rintro ⟨n,a,one⟩ w4 ⟨FL,vL,S5⟩
 try dsimp only at FL vL S5
 refine bC (l':=[(1,.int .i64 ((q:Nat):Int)),(2,.pointer (some ⟨b1,0,none⟩)),(4,.int .i64 0),(5,.bool false),(6,.int .i64 a),(7,.bool one),(8,.int .i64 ((n:Nat):Int))]) ⟨rfl,rfl,rfl,rfl,rfl,rfl,rfl,trivial⟩ (aK (aK (aC (vm ?_))));refine zN 3 ?_;by_cases h8:((n:Nat):Int)<5
 ·refine zN 9 ?_;obtain ⟨p,hp⟩: ∃ p,ps[n]? =some p:=⟨_,List.getElem?_eq_getElem (by omega)⟩;have hpp:=hp1 _ _ hp;obtain ⟨y,hy,hyb⟩:=CS hpp (q:=q) (by omega);refine zN 4 ?_;refine vv (v:= .pointer (some ⟨bA,oA+n*1,none⟩)) (aO rfl rfl rfl (dD n hBa Tryz.underlying36 sJ rfl (by omega))) ?_;refine vv (v:= .slice (some ⟨p.1,0,none⟩) 4 4) (aj rfl rfl (ay Tryz.underlying44 rfl (fJ Cj hBa S5 (memT 1 rfl nQ) (aZ (enc:=fU) (sz:=1) (k:=n) (j:=0) (λ_=>rfl) hp rfl)))) ?_;refine zQ ?_;refine vv (jd q) ?_;refine vv (v:= .agg #[.int .i64 y.b.role,.int .i64 y.b.ep,.int .i64 y.b.fr,.int .i64 y.b.tg,.int .i64 y.b.rd,.slice y.A y.b.evs.length y.c]) (aj rfl rfl (aA (cs:=BX.cells y) Tryz.underlying43 rfl aB rfl (λj u hu=>by rw [Nat.add_assoc];exact fJ hpp.rd rfl S5 (memT 1 rfl nQ) (aZ (enc:=BX.cells) (sz:=6) (k:=q) (λ_=>rfl) hy hu)))) ?_;refine fF S5 fE ?_;intro b9 YG qw;refine sa 0 qw aB ?_;intro ZE wD;refine zN 6 ?_
  rcases Wh:OD y.b with _ | _
  ·have hns: ¬ serves y.b:=λhh=>by rw [FR.2 hh] at Wh;cases Wh
   by_cases hr3:y.b.role=3
   ·have hcd:om ((m.ah n).view q):=by rw [<-hyb];exact .inr hr3
    have HV:=λw=>ji y w;rw [Wh] at HV;refine cab x9 wD (HV _) ?_;intro Gl kN;refine zN 11 ?_
    rcases Int.lt_or_le a 0 with hneg | hneg
    ·refine zQ ?_;refine fC kN mixed (by kernel_rfl) ?_;refine zN 16 ?_;refine eT λw22 lV=>?_;refine zN 15 ?_;refine vv (v:= .int .i64 ((n+1:Nat):Int)) gD ?_;refine zN 2 ?_;have jB:=lV.aS [0];refine aN (n+1,((n:Nat):Int),true) ?_ ⟨rfl,rfl,rfl,rfl,rfl,rfl,rfl,trivial⟩ (by first | omega | (dsimp only;omega));exact ⟨(by omega),(xX.first vL hA hneg hcd),jB⟩
    obtain ⟨k,rfl⟩:=Int.eq_ofNat_of_zero_le hneg;have hk5:k<5:=by rcases vL with ⟨e,_⟩ | ⟨k2,e,hk2,_⟩<;>omega
    obtain ⟨p2,hp2⟩: ∃ p,ps[k]? =some p:=⟨_,List.getElem?_eq_getElem (by omega)⟩;have tK:=hp1 _ _ hp2;obtain ⟨y2,hy2,vE⟩:=CS tK (q:=q) (by omega);refine zQ ?_;refine fC kN mixed (by kernel_rfl) ?_;refine zQ ?_;by_cases h26:((k:Nat):Int)<0
    ·refine zN 15 ?_;refine eT λRS kW=>?_;refine zN 15 ?_;refine vv (v:= .int .i64 ((n+1:Nat):Int)) gD ?_;refine zN 2 ?_;have mK:=kW.aS [0];refine aN (n+1,((n:Nat):Int),true) ?_ ⟨rfl,rfl,rfl,rfl,rfl,rfl,rfl,trivial⟩ (by first | omega | (dsimp only;omega));exact ⟨(by omega),(xX.more vL hA (by omega) hcd (by rw [<-hyb,<-vE];omega)),mK⟩
    refine zN 7 ?_;refine ug (v:= .pointer (some ⟨bA,oA+k*1,none⟩)) (λ_ _=>(aO rfl rfl rfl (dD k hBa Tryz.underlying36 sJ rfl (by omega)))) ?_;refine ug (v:= .slice (some ⟨p2.1,0,none⟩) 4 4) (λ_ akP=>(aj rfl rfl (ay Tryz.underlying44 rfl (fJ Cj hBa akP (memT 2 rfl nQ) (aZ (enc:=fU) (sz:=1) (k:=k) (j:=0) (λ_=>rfl) hp2 rfl))))) ?_;refine zQ ?_;refine ug (λ_ _=>jd q) ?_;refine zQ ?_;refine ug (v:= .int .i64 y2.b.ep) (λ_ ayf=>(aj rfl rfl (ay Tryz.underlying3 rfl (by rw [Nat.add_assoc];exact fJ tK.rd rfl ayf (memT 2 rfl nQ) (aZ (enc:=BX.cells) (sz:=6) (k:=q) (j:=1) (λ_=>rfl) hy2 rfl))))) ?_;by_cases h46:y2.b.ep<y.b.ep
    ·refine zN 2 ?_;refine eT λZz vS=>?_;refine zN 15 ?_;refine vv (v:= .int .i64 ((n+1:Nat):Int)) gD ?_;refine zN 2 ?_;have uy:=vS.aS [0];refine aN (n+1,((n:Nat):Int),true) ?_ ⟨rfl,rfl,rfl,rfl,rfl,rfl,rfl,trivial⟩ (by first | omega | (dsimp only;omega));exact ⟨(by omega),(xX.more vL hA (by omega) hcd (by rw [<-hyb,<-vE];omega)),uy⟩
    refine zN 2 ?_;refine eT λZU uS=>?_;refine zN 3 ?_;refine fC uS mixed (by kernel_rfl) ?_;refine zN 5 ?_;refine uv (v:= .pointer (some ⟨bA,oA+k*1,none⟩)) (λ_ _=>(aO rfl rfl rfl (dD k hBa Tryz.underlying36 sJ rfl (by omega)))) ?_;refine uv (v:= .slice (some ⟨p2.1,0,none⟩) 4 4) (λ_ ayg=>(aj rfl rfl (ay Tryz.underlying44 rfl (fJ Cj hBa ayg (memT 2 rfl nQ) (aZ (enc:=fU) (sz:=1) (k:=k) (j:=0) (λ_=>rfl) hp2 rfl))))) ?_;refine zQ ?_;refine uv (λ_ _=>jd q) ?_;refine zQ ?_;refine uv (v:= .int .i64 y2.b.ep) (λ_ akQ=>(aj rfl rfl (ay Tryz.underlying3 rfl (by rw [Nat.add_assoc];exact fJ tK.rd rfl akQ (memT 2 rfl nQ) (aZ (enc:=BX.cells) (sz:=6) (k:=q) (j:=1) (λ_=>rfl) hy2 rfl))))) ?_;by_cases Bh:y.b.ep=y2.b.ep
    ·refine zQ ?_;refine eT λw69 qg=>?_;refine zN 9 ?_;refine vv (v:= .int .i64 ((n+1:Nat):Int)) gD ?_;refine zN 2 ?_;have rG:=qg.aS [0];refine aN (n+1,((k:Nat):Int),false) ?_ ⟨rfl,rfl,rfl,rfl,rfl,rfl,rfl,trivial⟩ (by first | omega | (dsimp only;omega));exact ⟨(by omega),((xX.less vL hA (by omega) hcd (by rw [<-hyb,<-vE];omega)).2 (by rw [<-hyb,<-vE];omega)),rG⟩
    refine zQ ?_;refine eT λw73 Hf=>?_;refine zN 7 ?_;refine vv (v:= .int .i64 ((n+1:Nat):Int)) gD ?_;refine zN 2 ?_;have Bb:=Hf.aS [0];refine aN (n+1,((k:Nat):Int),one) ?_ ⟨rfl,rfl,rfl,rfl,rfl,rfl,rfl,trivial⟩ (by first | omega | (dsimp only;omega));exact ⟨(by omega),((xX.less vL hA (by omega) hcd (by rw [<-hyb,<-vE];omega)).1 (by rw [<-hyb,<-vE];omega)),Bb⟩
   have hcd: ¬ om ((m.ah n).view q):=by rw [<-hyb];exact λhh=>hh.elim hns hr3
   have HV:=λw=>ji y w;rw [Wh] at HV;refine cab x9 wD (HV _) ?_;intro w76 Da;refine zN 15 ?_;refine vv (v:= .int .i64 ((n+1:Nat):Int)) gD ?_;refine zN 2 ?_;have Bf:=Da.aS [0];refine aN (n+1,a,one) ?_ ⟨rfl,rfl,rfl,rfl,rfl,rfl,rfl,trivial⟩ (by first | omega | (dsimp only;omega));exact ⟨(by omega),(xX.skip vL hA hcd),Bf⟩
  have hcd:om ((m.ah n).view q):=by rw [<-hyb];exact .inl (FR.1 Wh)
  have HV:=λw=>ji y w;rw [Wh] at HV;refine cab x9 wD (HV _) ?_;intro w80 sN;refine zN 11 ?_
  rcases Int.lt_or_le a 0 with hneg | hneg
  ·refine zQ ?_;refine fC sN mixed (by kernel_rfl) ?_;refine zN 16 ?_;refine eT λw87 Jv=>?_;refine zN 15 ?_;refine vv (v:= .int .i64 ((n+1:Nat):Int)) gD ?_;refine zN 2 ?_;have Jo:=Jv.aS [0];refine aN (n+1,((n:Nat):Int),true) ?_ ⟨rfl,rfl,rfl,rfl,rfl,rfl,rfl,trivial⟩ (by first | omega | (dsimp only;omega));exact ⟨(by omega),(xX.first vL hA hneg hcd),Jo⟩
  obtain ⟨k,rfl⟩:=Int.eq_ofNat_of_zero_le hneg;have hk5:k<5:=by rcases vL with ⟨e,_⟩ | ⟨k2,e,hk2,_⟩<;>omega
  obtain ⟨p2,hp2⟩: ∃ p,ps[k]? =some p:=⟨_,List.getElem?_eq_getElem (by omega)⟩;have tK:=hp1 _ _ hp2;obtain ⟨y2,hy2,vE⟩:=CS tK (q:=q) (by omega);refine zQ ?_;refine fC sN mixed (by kernel_rfl) ?_;refine zQ ?_;by_cases Fz:((k:Nat):Int)<0
  ·refine zN 15 ?_;refine eT λw95 zC=>?_;refine zN 15 ?_;refine vv (v:= .int .i64 ((n+1:Nat):Int)) gD ?_;refine zN 2 ?_;have Dg:=zC.aS [0];refine aN (n+1,((n:Nat):Int),true) ?_ ⟨rfl,rfl,rfl,rfl,rfl,rfl,rfl,trivial⟩ (by first | omega | (dsimp only;omega));exact ⟨(by omega),(xX.more vL hA (by omega) hcd (by rw [<-hyb,<-vE];omega)),Dg⟩
  refine zN 7 ?_;refine ug (v:= .pointer (some ⟨bA,oA+k*1,none⟩)) (λ_ _=>(aO rfl rfl rfl (dD k hBa Tryz.underlying36 sJ rfl (by omega)))) ?_;refine ug (v:= .slice (some ⟨p2.1,0,none⟩) 4 4) (λ_ aso=>(aj rfl rfl (ay Tryz.underlying44 rfl (fJ Cj hBa aso (memT 2 rfl nQ) (aZ (enc:=fU) (sz:=1) (k:=k) (j:=0) (λ_=>rfl) hp2 rfl))))) ?_;refine zQ ?_;refine ug (λ_ _=>jd q) ?_;refine zQ ?_;refine ug (v:= .int .i64 y2.b.ep) (λ_ asq=>(aj rfl rfl (ay Tryz.underlying3 rfl (by rw [Nat.add_assoc];exact fJ tK.rd rfl asq (memT 2 rfl nQ) (aZ (enc:=BX.cells) (sz:=6) (k:=q) (j:=1) (λ_=>rfl) hy2 rfl))))) ?_;by_cases CQ:y2.b.ep<y.b.ep
  ·refine zN 2 ?_;refine eT λafD og=>?_;refine zN 15 ?_;refine vv (v:= .int .i64 ((n+1:Nat):Int)) gD ?_;refine zN 2 ?_;have tu:=og.aS [0];refine aN (n+1,((n:Nat):Int),true) ?_ ⟨rfl,rfl,rfl,rfl,rfl,rfl,rfl,trivial⟩ (by first | omega | (dsimp only;omega));exact ⟨(by omega),(xX.more vL hA (by omega) hcd (by rw [<-hyb,<-vE];omega)),tu⟩
  refine zN 2 ?_;refine eT λaj0 oI=>?_;refine zN 3 ?_;refine fC oI mixed (by kernel_rfl) ?_;refine zN 5 ?_;refine uv (v:= .pointer (some ⟨bA,oA+k*1,none⟩)) (λ_ _=>(aO rfl rfl rfl (dD k hBa Tryz.underlying36 sJ rfl (by omega)))) ?_;refine uv (v:= .slice (some ⟨p2.1,0,none⟩) 4 4) (λ_ asr=>(aj rfl rfl (ay Tryz.underlying44 rfl (fJ Cj hBa asr (memT 2 rfl nQ) (aZ (enc:=fU) (sz:=1) (k:=k) (j:=0) (λ_=>rfl) hp2 rfl))))) ?_;refine zQ ?_;refine uv (λ_ _=>jd q) ?_;refine zQ ?_;refine uv (v:= .int .i64 y2.b.ep) (λ_ asu=>(aj rfl rfl (ay Tryz.underlying3 rfl (by rw [Nat.add_assoc];exact fJ tK.rd rfl asu (memT 2 rfl nQ) (aZ (enc:=BX.cells) (sz:=6) (k:=q) (j:=1) (λ_=>rfl) hy2 rfl))))) ?_;by_cases awC:y.b.ep=y2.b.ep
  ·refine zQ ?_;refine eT λafE Cy=>?_;refine zN 9 ?_;refine vv (v:= .int .i64 ((n+1:Nat):Int)) gD ?_;refine zN 2 ?_;have Bd:=Cy.aS [0];refine aN (n+1,((k:Nat):Int),false) ?_ ⟨rfl,rfl,rfl,rfl,rfl,rfl,rfl,trivial⟩ (by first | omega | (dsimp only;omega));exact ⟨(by omega),((xX.less vL hA (by omega) hcd (by rw [<-hyb,<-vE];omega)).2 (by rw [<-hyb,<-vE];omega)),Bd⟩
  refine zQ ?_;refine eT λaoo zM=>?_;refine zN 7 ?_;refine vv (v:= .int .i64 ((n+1:Nat):Int)) gD ?_;refine zN 2 ?_;have yt:=zM.aS [0];refine aN (n+1,((k:Nat):Int),one) ?_ ⟨rfl,rfl,rfl,rfl,rfl,rfl,rfl,trivial⟩ (by first | omega | (dsimp only;omega));exact ⟨(by omega),((xX.less vL hA (by omega) hcd (by rw [<-hyb,<-vE];omega)).1 (by rw [<-hyb,<-vE];omega)),yt⟩
 refine zN 19 ?_;obtain rfl:n=5:=by omega
 obtain ⟨rfl,rfl⟩:=xX.done vL hA;have ajN:=S5.aS [0];exact ⟨rfl,ajN⟩
theorem xA {gs:List Gr} {A:Option Addr} {c m:Nat} {cr:Bool} {s:List Ac} (hs:s=aY gs m cr) (hm:m<=1000) (hg: ∀ g∈gs,g.ok) (w:World) (h:Rd w w.heap.size 5 A gs.length (gs.flatMap Gr.cells)):
  Calls Tryz.prog 8 #[.slice A gs.length c,.int .i64 ((m:Nat):Int),.bool cr] w (λe w'=> ∃ A' c',e= .returned (.slice A' s.length c')/\St w.heap.size w w' [.own 57 11 (.slice A' s.length c') s.length (s.flatMap Ac.cells)]):=by
 subst hs;exact zl hm hg w h
theorem afj {x:OX} {q:Nat} (hq:q<4): ∀ (j:Nat) (u:Value),[Value.int .i64 (x.d.at q).node,Value.int .i64 (x.d.at q).epoch][j]? =some u->x.cells[6+q*2+j]? =some u:=by
 have:q=0\/q=1\/q=2\/q=3:=by omega
 intro j u h
 match j with
 | 0=>rcases this with rfl | rfl | rfl | rfl<;>exact h
 | 1=>rcases this with rfl | rfl | rfl | rfl<;>exact h
 | j+2=>simp at h
theorem JF {gs:List Gr} {s:List Ac} {A:Option Addr} {c:Nat} {w:World} (hs:s=aY gs 60 true) (hg: ∀ g∈gs,g.ok) (h0: ∀ a∈s,dz a=0) (hsl:s.length<=1000) (hu:Uk w.heap.size w) (h:Rd w w.heap.size 5 A gs.length (gs.flatMap Gr.cells)) (hs2:2<=s.length) (hau: ∀ i q,2<=i->q<2-> ∃ o,AO (dZ.run (s.take i)) q o/\1<=((dZ.run (s.take i)).off.at q).epoch/\((dZ.run (s.take i)).off.at q).epoch<=1048576/\((((dZ.run (s.take i)).ah o).view q).ep=((dZ.run (s.take i)).off.at q).epoch/\((o:Nat):Int)=((dZ.run (s.take i)).off.at q).node\/(((dZ.run (s.take i)).ah o).view q).ep=((dZ.run (s.take i)).off.at q).epoch+1)):
    Calls Tryz.prog 3 #[.slice A gs.length c] w (λe w'=>e= .returned (.bool true)/\Below w.heap.size w w'):=by
 have S:=(St.start w).bV h;refine gu 91 Tryz.func3 ?_;refine cw [0] ?_;refine zN 8 ?_;refine dH afq (xA (m:=60) hs (by decide) hg _ ((St.rd 0 S rfl))) ?_;rintro _ w3 ⟨A1,c2,rfl,T5⟩;refine ⟨_,rfl,?_⟩;have S4:=S.ext T5 rfl;refine dH afp (qp (by omega) (dn (S4.own 0 rfl)).1 h0 S4 hu (Ro.own (List.mem_of_getElem? (i:=0) rfl))) ?_;rintro _ w6 ⟨H6,L9,sF,c11,rfl,ach,Rs,S7⟩;refine ⟨_,rfl,?_⟩;refine zN 14 ?_;refine dN (X:=Nat) (λxv=>[(2,.bool false),(3,.slice sF (s.length+1) c11),(4,.bool true),(5,.int .i64 ((xv:Nat):Int))]) (λxv wr=>(2<=xv)/\(xv<=s.length+1)/\St w.heap.size w wr ((.own 40 18 (.slice sF (s.length+1) c11) (s.length+1) ((H6).flatMap OX.cells))::(L9++[.own 57 11 (.slice A1 s.length c2) s.length ((s).flatMap Ac.cells),.rd 5 A gs.length ((gs).flatMap Gr.cells)]))) (λxv=>s.length+1-xv) (2) ?_ ?_ ?_
 ·exact ⟨(Nat.le_refl 2),(by omega),S7⟩
 ·exact ⟨rfl,rfl,rfl,rfl,trivial⟩
 rintro i Jw ⟨abE,ayh,gJ⟩
 try dsimp only at abE ayh gJ
 refine bC (l':=[(2,.bool false),(3,.slice sF (s.length+1) c11),(4,.bool true),(5,.int .i64 ((i:Nat):Int))]) ⟨rfl,rfl,rfl,rfl,trivial⟩ (aK (aK (aC (vm ?_))));refine zN 2 ?_;by_cases h18:((i:Nat):Int)< ((s.length+1:Nat):Int)
 ·refine zN 9 ?_;obtain ⟨x,hx⟩: ∃ x,H6[i]? =some x:=⟨_,List.getElem?_eq_getElem (by omega)⟩;have hX:=Rs _ _ hx;obtain ⟨ps,hpl,Cj,hp1⟩:=hX.ps;have nQ: ∀ f∈L9,f∈(L9++[.own 57 11 (.slice A1 s.length c2) s.length ((s).flatMap Ac.cells),.rd 5 A gs.length ((gs).flatMap Gr.cells)]):=λf h=>List.mem_append_left _ h;obtain ⟨bA,oA,hBa⟩:=pF Cj gJ (memT 1 rfl nQ) (by decide);refine zN 5 ?_;refine dN (X:=Nat) (λxv=>[(2,.bool false),(3,.slice sF (s.length+1) c11),(4,.bool true),(5,.int .i64 ((i:Nat):Int)),(6,.int .i64 ((xv:Nat):Int))]) (λxv wr=>(xv<=2)/\St w.heap.size w wr ((.own 40 18 (.slice sF (s.length+1) c11) (s.length+1) ((H6).flatMap OX.cells))::(L9++[.own 57 11 (.slice A1 s.length c2) s.length ((s).flatMap Ac.cells),.rd 5 A gs.length ((gs).flatMap Gr.cells)]))) (λxv=>2-xv) (0) ?_ ?_ ?_
  ·exact ⟨Nat.zero_le _,gJ⟩
  ·exact ⟨rfl,rfl,rfl,rfl,rfl,trivial⟩
  rintro q Gc ⟨hi21,lT⟩
  try dsimp only at hi21 lT
  refine bC (l':=[(2,.bool false),(3,.slice sF (s.length+1) c11),(4,.bool true),(5,.int .i64 ((i:Nat):Int)),(6,.int .i64 ((q:Nat):Int))]) ⟨rfl,rfl,rfl,rfl,rfl,trivial⟩ (aK (aK (aC (vm ?_))));by_cases h22:((q:Nat):Int)<2
  ·refine zN 9 ?_;obtain ⟨o,hA,hd1,hd2,Jk⟩:=hau i q (by omega) (by omega);have ho5:=hA.lt;refine zN 3 ?_;obtain ⟨zi,o24,rfl⟩:=Rd.addr (St.ord 0 lT rfl) (by omega);refine vv (jd i) ?_;refine vv (aj rfl rfl (aA (cs:=OX.cells x) Tryz.underlying40 rfl uq rfl (Rd.vQ (St.ord 0 lT rfl) (λ_ _ h=>aZ (enc:=OX.cells) (sz:=18) (λ_=>rfl) hx h)))) ?_;refine zQ ?_;refine dH aye (JE (by omega) hA lT hX (memT 1 rfl nQ)) ?_;rintro _ w25 ⟨rfl,lU⟩;refine ⟨_,rfl,?_⟩;refine zN 12 ?_;refine vv (jd i) ?_;refine zQ ?_;refine vv (vR (o24+i*18+6) anl) ?_;refine vv (v:= .pointer (some ⟨zi,o24+i*18+6+q*2,none⟩)) (aO rfl rfl rfl (dL q Tryz.underlying33 iQ rfl (by omega))) ?_;refine vv (v:= .agg #[.int .i64 ((x.d.at q).node),.int .i64 ((x.d.at q).epoch)]) (aj rfl rfl (aA (cs:=[.int .i64 ((x.d.at q).node),.int .i64 ((x.d.at q).epoch)]) Tryz.underlying32 rfl iQ rfl (λj u hu=>by rw [show o24+i*18+6+q*2+j=o24+i*18+(6+q*2+j) by omega];exact Rd.RG (i:=6+q*2+j) (St.ord 0 lU rfl) (aZ (enc:=OX.cells) (sz:=18) (λ_=>rfl) hx (afj (by omega) j u hu))))) ?_;refine fF lU En ?_;intro b27 Yo sM;refine stA 0 sM iQ ?_;intro RS kW;refine zN 17 ?_;obtain ⟨p,hp⟩: ∃ p,ps[o]? =some p:=⟨_,List.getElem?_eq_getElem (by omega)⟩;have hpp:=hp1 _ _ hp;obtain ⟨y,hy,hyb⟩:=CS hpp (q:=q) (by omega);rw [<-hX.d,<-hyb] at Jk;rw [<-hX.d] at hd1 hd2;refine zN 3 ?_;refine vv (jd i) ?_;refine zQ ?_;refine vv (aj rfl rfl (ay Tryz.underlying36 rfl (Rd.RG (i:=14) (St.ord 1 kW rfl) (aZ (enc:=OX.cells) (sz:=18) (λ_=>rfl) hx rfl)))) ?_;refine zQ ?_;refine vv (v:= .pointer (some ⟨bA,oA+o*1,none⟩)) (aO rfl rfl rfl (dD o hBa Tryz.underlying36 sJ rfl (by omega))) ?_;refine vv (v:= .slice (some ⟨p.1,0,none⟩) 4 4) (aj rfl rfl (ay Tryz.underlying44 rfl (fJ Cj hBa kW (memT 2 rfl nQ) (aZ (enc:=fU) (sz:=1) (k:=o) (j:=0) (λ_=>rfl) hp rfl)))) ?_;refine zQ ?_;refine vv (jd q) ?_;refine zQ ?_;refine vv (v:= .int .i64 y.b.ep) (aj rfl rfl (ay Tryz.underlying3 rfl (by rw [Nat.add_assoc];exact fJ hpp.rd rfl kW (memT 2 rfl nQ) (aZ (enc:=BX.cells) (sz:=6) (k:=q) (j:=1) (λ_=>rfl) hy rfl)))) ?_;refine zN 4 ?_
   rcases Jk with ⟨hle,hln⟩ | hle
   ·refine zN 32 ?_;refine vv (v:= .int .i64 ((q+1:Nat):Int)) gD ?_;refine zN 2 ?_;have mK:=kW.aS [0];refine aN (q+1) ?_ ⟨rfl,rfl,rfl,rfl,rfl,trivial⟩ (by first | omega | (dsimp only;omega));exact ⟨(by omega),mK⟩
   refine zN 9 ?_;refine vg (v:= .int .i64 (((x.d.at q).epoch)+1)) gD ?_;refine zN 22 ?_;refine vv (v:= .int .i64 ((q+1:Nat):Int)) gD ?_;refine zN 2 ?_;have qx:=kW.aS [0];refine aN (q+1) ?_ ⟨rfl,rfl,rfl,rfl,rfl,trivial⟩ (by first | omega | (dsimp only;omega));exact ⟨(by omega),qx⟩
  refine zN 12 ?_;refine vv (v:= .int .i64 ((i+1:Nat):Int)) gD ?_;refine zN 2 ?_;refine aN (i+1) ?_ ⟨rfl,rfl,rfl,rfl,trivial⟩ (by first | omega | (dsimp only;omega));exact ⟨(by omega),(by omega),lT⟩
 refine zN 22 ?_;exact ⟨rfl,gJ.low⟩
section
variable {m:Cl} {q n k:Nat} {g:Gh}
theorem LW.auth (h:LW m q g k):AO m q g.o:=by
 have I:=h.qi;have h1:=I.arl;have h2:=I.Ae;unfold vw at h1 h2;refine ⟨I.o5,?_,λn hn hne hc=>?_⟩
 ·unfold om serves;omega
 rcases hc with hc | hc
 ·exact absurd (h.aU hn hc).1 hne
 obtain ⟨h3,h4⟩:=h.acg hn hc;have:((m.ah n).view q).ep≠g.m:=λe=>hne (h4 e);omega
end
theorem afk {gs:List Gr} {m:Nat} {cr:Bool} (hm:m<=500) {i q:Nat} (hi:2<=i) (hq:q<2): ∃ o,AO (dZ.run ((aY gs m cr).take i)) q o/\1<=((dZ.run ((aY gs m cr).take i)).off.at q).epoch/\
  ((((dZ.run ((aY gs m cr).take i)).ah o).view q).ep=((dZ.run ((aY gs m cr).take i)).off.at q).epoch/\((o:Nat):Int)=((dZ.run ((aY gs m cr).take i)).off.at q).node\/(((dZ.run ((aY gs m cr).take i)).ah o).view q).ep=((dZ.run ((aY gs m cr).take i)).off.at q).epoch+1):=by
 obtain ⟨g,g',k,k',_,h2,_⟩:=yM (gs:=gs) (cr:=cr) hm hi (Nat.le_refl i) hq;obtain ⟨d,hd,h1,h3⟩:=h2.qi.dir;have h4:=h2.qi.Ae;unfold vw at h4;refine ⟨g'.o,h2.auth,?_⟩;rw [hd,h4];refine ⟨by show (1:Int)<=(d:Int);omega,?_⟩
 rcases h3 with h3 | h3
 ·subst h3;exact .inl ⟨rfl,rfl⟩
 right;show (g'.m:Int)=(d:Int)+1;omega
theorem MW (gs:List Gr):2<=(aY gs 60 true).length:=by
 unfold aY mks;simp
theorem aiH {gs:List Gr} {s:List Ac} (hs:s=aY gs 60 true): ∀ i q,2<=i->q<2-> ∃ o,AO (dZ.run (s.take i)) q o/\1<=((dZ.run (s.take i)).off.at q).epoch/\((dZ.run (s.take i)).off.at q).epoch<=1048576/\((((dZ.run (s.take i)).ah o).view q).ep=((dZ.run (s.take i)).off.at q).epoch/\((o:Nat):Int)=((dZ.run (s.take i)).off.at q).node\/(((dZ.run (s.take i)).ah o).view q).ep=((dZ.run (s.take i)).off.at q).epoch+1):=by
 subst hs;intro i q hi hq;obtain ⟨o,h1,h2,h3⟩:=afk (gs:=gs) (m:=60) (cr:=true) (by decide) hi hq;have:=Pp gs (m:=60) (by decide) true (i:=i) (q:=q) h1.lt (by omega);exact ⟨o,h1,h2,by omega,h3⟩
theorem FX (W:World) (hu:Uk W.heap.size W) (args:Array Value) (h:dI (H7 Tryz.prog W) args.toList Tryz.f3.params.toList):
  Calls Tryz.prog 3 args W λe W'=>e= .returned (.bool true)/\Below W.heap.size W W':=by
 rw [Tryz.params3] at h;obtain ⟨v,l1,hv,h1,h0⟩:=dI.uf h;have h4:=dI.uh h0;subst h4;obtain rfl:args= #[v]:=by cases args;simp_all
 obtain ⟨A,c,gs,rfl,hr,hg⟩:=BK h1;exact JF rfl hg (sI _ _ _) (by have:=xP gs 60 true;omega) hu hr (MW gs) (aiH rfl)
end Go.Proofs.YthhnonpehllibaaGreatDoor
