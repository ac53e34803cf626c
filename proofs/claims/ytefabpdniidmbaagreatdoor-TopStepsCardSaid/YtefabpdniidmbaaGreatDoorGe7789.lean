import Derived.Test.YtefabpdniidmbaaGreatDoorG0aa69
import Derived.Test.YtefabpdniidmbaaGreatDoorG1bfb6
set_option linter.all false
set_option maxRecDepth 100000
set_option maxHeartbeats 8000000
namespace Go.Proofs.YtefabpdniidmbaaGreatDoor
open List Nat Go.Proofs.Tryz ChangeShapes WideShapes RowKit
def aEs(q:Nat)(l:List jJ):List jJ:=l.filter λs=>decide (s.q=q)
def Bd{P:Program}{N:Nat}{ops:Array Oper}{Q:Exit->Act->World->Prop}{C:World->Prop}{o:Oper}{l:Nj}{w:World}{d:Nat}{v:Value}{n:Nat}{listed listed':Array Bool}(i:Nat)(hi:ops[i]? =some o)(I:C w)(J:∀w,C w->jr P N l o w v)(h:wA P N ops Q C n listed' ((d,v)::l) w)(hs:Region.noSelect ops=true:=by kernel_rfl)(M:Region.free .any ops listed i=true:=by kernel_rfl)
  (O:(Region.ready .any ops listed).contains i=true:=by kernel_rfl) (Z:listed.setIfInBounds i true=listed':=by exact E) (hw:Nq N ops l o true:=by exact wg E E E E) (hd:o.dst=some d:=by exact E) (hN:blt d N=true:=by exact E):wA P N ops Q C (n+1) listed l w:=Bg hi hs M O I Z hw hd hN J h
def ahR(x:QK)(w:World):(binOp .neq 30 (.agg (x.cells).toArray) (.agg (x.cells).toArray)).run prog w=.ok (.bool false) w:=
 afd w (l:=(.at_ (.int .i64):: .at_ (.int .i64):: .at_ (.int .i64):: .at_ (.int .i64):: .at_ (.int .i64):: .at_ (.int .i64):: .at_ (.int .i64):: .at_ (.int .i64)::[])) (by kernel_rfl) (by kernel_rfl) (λxs=>by unfold mkV;rw[underlying30]) ⟨⟨_,E⟩,⟨_,E⟩,⟨_,E⟩,⟨_,E⟩,⟨_,E⟩,⟨_,E⟩,⟨_,E⟩,⟨_,E⟩,trivial⟩
def adR{d e:QK}(h:e=d)(w:World):(binOp .neq 30 (.agg d.cells.toArray) (.agg e.cells.toArray)).run prog w=.ok (.bool false) w:=by
 subst h;exact ahR _ w
def ahS(A A':Option Addr)(n c I c':Nat)(l l':List Ev)(w:World)(h:Rd w w.heap.size 6 A n (aY l))(J:Rd w w.heap.size 6 A' I (aY l'))(e:l'=l)(M:n<=2000):
 Calls prog 13 #[.slice A n c,.slice A' I c'] w λe w'=>e=.returned (.int .i64 (l.length:Nat))/\Below w.heap.size w w':=by
 subst e;have O:=h.aeu;have Z:=J.aeu;subst O;subst Z;exact Vq h J M
def VK{gs:List Gr}{s F F2:List Ac}{A:Option Addr}{c k:Nat}{more:Int}{w:World}(hs:s=bQ gs 80 true)(hF:F=kT s (Bb s))(hF2:F2=kT F k)(hk:k<=30)(hpk:∀w,Calls prog 11 #[.int .i64 more,.int .i64 30] w (λe w'=>e=.returned (.int .i64 (k:Int))/\w'=w))(hen:Bb s<=100000)(hg:∀g∈gs,g.ok)(h0:∀a∈F,dD a=0)(h02:∀a∈F2,dD a=0)(hsl:s.length<=1000)(hFl:F.length<=100000)(aEt:F2.length<=100000)(hu:Uk w.heap.size w)(h:Rd w w.heap.size 5 A gs.length (gs.flatMap Gr.cells))(hst:((kM.run F2).off=(kM.run F).off/\(kM.run F2).aP=(kM.run F).aP/\ ∀q,q<2-> ∃o,wm (kM.run F) q o/\wm (kM.run F2) q o/\(((kM.run F2).ah o).view q).Gs=(((kM.run F).ah o).view q).Gs/\(((kM.run F).ah o).view q).Gs.length<=300)):
 Calls prog 5 #[.slice A gs.length c,.int .i64 more] w (λe w'=>e=.returned (.bool true)/\Below w.heap.size w w'):=by
 have S:=(St.start w).bV h;refine gP 142 func5 ?_;refine cw [0,1] ?_;refine zN 8 ?_;refine dJ eQ (ahL (m:=80) hs (by decide) hg _ ((St.rd 0 S E))) ?_;rintro _ w3 ⟨A1,c2,rfl,T5⟩;refine⟨_,E,?_⟩;have S4:=S.ext T5 E;refine zN 7 ?_;refine Rq eQ S4 (RS hsl _ (St.Rn 0 S4 E)) ?_;intro w6 S7;refine dJ eQ (afA (r:=Bb s) hF hen (by omega) _ ((St.Rn 0 S7 E))) ?_;rintro _ Ib ⟨A9,c10,rfl,T13⟩;refine⟨_,E,?_⟩;have pF:=S7.ext T13 E;refine zN 6 ?_;refine dJ eQ (anD h0 hFl pF hu (Ro.own (mem_of_getElem? (i:=0) E))) ?_;rintro _ Lf ⟨x,L0,rfl,aEu,jm⟩;refine⟨_,E,?_⟩;have hX:=aEu;have o8:=jm.perm (show(L0++([.own 51 11 (.slice A9 F.length c10) F.length ((F).flatMap Ac.cells),.own 51 11 (.slice A1 s.length c2) s.length ((s).flatMap Ac.cells),.rd 5 A gs.length ((gs).flatMap Gr.cells)]:List J8)).Perm (([.own 51 11 (.slice A9 F.length c10) F.length ((F).flatMap Ac.cells),.own 51 11 (.slice A1 s.length c2) s.length ((s).flatMap Ac.cells),.rd 5 A gs.length ((gs).flatMap Gr.cells)]:List J8)++(L0++[])) by rw[append_nil];exact perm_append_comm);have aEv:∀f∈L0,f∈(L0++[]):=λf h=>mem_append_left _ h;refine zN 3 ?_;refine mV (V:=λb=>.pointer (some ⟨b,0,none⟩)) (row:= #[.int .i64 0,.bool false,.bool false,.bool false,.bool false,.bool false,.int .i64 0,.int .i64 0,.int .i64 0,.int .i64 0,.int .i64 0,.int .i64 0,.int .i64 0,.int .i64 0,.slice none 0 0,.slice none 0 0,.slice none 0 0,.int .i64 0]) (t:=35) o8 (wn E) E E (jd E (zeroValue35 _) E) ?_;intro Z GH qj;refine stA 0 qj kQ ?_;intro FN jY;refine zN 7 ?_;refine dJ eQ (hpk _) ?_;rintro _ JN ⟨rfl,rfl⟩;refine⟨_,E,?_⟩;refine dJ eQ (afA (r:=k) hF2 (by omega) (by omega) _ ((St.Rn 1 jY E))) ?_;rintro _ M4 ⟨A24,c25,rfl,T28⟩;refine⟨_,E,?_⟩;have sS:=jY.ext T28 E;refine dJ eQ (anD h02 aEt sS hu (Ro.own (mem_of_getElem? (i:=0) E))) ?_;rintro _ w29 ⟨x2,L2,rfl,aEw,zP⟩;refine⟨_,E,?_⟩;have hX2:=aEw;have oW:=zP.perm (perm_append_comm_assoc L2 ([.own 51 11 (.slice A24 F2.length c25) F2.length ((F2).flatMap Ac.cells),.Mg Z (oX x) 35,.own 51 11 (.slice A9 F.length c10) F.length ((F).flatMap Ac.cells),.own 51 11 (.slice A1 s.length c2) s.length ((s).flatMap Ac.cells),.rd 5 A gs.length ((gs).flatMap Gr.cells)]:List J8) (L0++[]));have J:∀f∈L2,f∈(L2++(L0++[])):=λf h=>mem_append_left _ h;have O:∀f∈L0,f∈(L2++(L0++[])):=λf h=>mem_append_right _ (aEv f h);refine zN 3 ?_;refine mV (V:=λb=>.pointer (some ⟨b,0,none⟩)) (row:= #[.int .i64 0,.bool false,.bool false,.bool false,.bool false,.bool false,.int .i64 0,.int .i64 0,.int .i64 0,.int .i64 0,.int .i64 0,.int .i64 0,.int .i64 0,.int .i64 0,.slice none 0 0,.slice none 0 0,.slice none 0 0,.int .i64 0]) (t:=35) oW (wn E) E E (jd E (zeroValue35 _) E) ?_;intro b33 ZQ Cc;refine stA 0 Cc kQ ?_;intro w36 yJ;refine zN 5 ?_;obtain⟨hdd,hsv,hau⟩:=hst;have hdx:x2.d=x.d:=hX2.d.trans (hdd.trans hX.d.symm);have hsn:x2.sn=x.sn:=by rw[hX2.sn,hX.sn,hsv]
 refine zN 8 ?_;refine vg (yfb 6) ?_;refine vg (aj E E (rD (cs:=[.int .i64 x.d.p0.node,.int .i64 x.d.p0.Mc,.int .i64 x.d.p1.node,.int .i64 x.d.p1.Mc,.int .i64 x.d.p2.node,.int .i64 x.d.p2.Mc,.int .i64 x.d.p3.node,.int .i64 x.d.p3.Mc]) underlying30 E kQ E (St.rg 2 yJ E (mE (x:=6) (m:=8) E)))) ?_;refine vg (yfb 6) ?_;refine vg (aj E E (rD (cs:=[.int .i64 x2.d.p0.node,.int .i64 x2.d.p0.Mc,.int .i64 x2.d.p1.node,.int .i64 x2.d.p1.Mc,.int .i64 x2.d.p2.node,.int .i64 x2.d.p2.Mc,.int .i64 x2.d.p3.node,.int .i64 x2.d.p3.Mc]) underlying30 E kQ E (St.rg 0 yJ E (mE (x:=6) (m:=8) E)))) ?_;refine vg (v:=.bool false) (bM E E E (C9 (by kernel_rfl) (adR hdx _))) ?_;refine zN 2 ?_;refine vg (yfb 15) ?_;refine zN 2 ?_;refine vg (yfb 15) ?_;refine zN 11 ?_;obtain⟨ps,hpl,WJ,hp1⟩:=hX.ps;obtain⟨bA,oA,hBa⟩:=yH WJ yJ (M9 6 E O) (by decide);obtain⟨ps2,aLN,apc,aEx⟩:=hX2.ps;obtain⟨bA2,oA2,aiK⟩:=yH apc yJ (M9 6 E J) (by decide);refine zN 5 ?_;refine fJ (X:=Nat) (λxv=>[(4,.bool false),(6,.pointer (some ⟨Z,0,none⟩)),(8,.pointer (some ⟨b33,0,none⟩)),(10,.int .i64 (xv:Int))]) (λxv wr=>(xv<=2)/\St w.heap.size w wr ((.Mg b33 (oX x2) 35)::(.own 51 11 (.slice A24 F2.length c25) F2.length ((F2).flatMap Ac.cells))::(.Mg Z (oX x) 35)::(.own 51 11 (.slice A9 F.length c10) F.length ((F).flatMap Ac.cells))::(.own 51 11 (.slice A1 s.length c2) s.length ((s).flatMap Ac.cells))::(.rd 5 A gs.length ((gs).flatMap Gr.cells))::(L2++(L0++[])))) (λxv=>2-xv) (0) ?_ ?_ ?_
 ·exact⟨zero_le _,yJ⟩
 ·exact⟨E,E,E,E,trivial⟩
 rintro q ZO ⟨aEy,xV⟩
 try dsimp only at aEy xV
 refine bI (l':=[(4,.bool false),(6,.pointer (some ⟨Z,0,none⟩)),(8,.pointer (some ⟨b33,0,none⟩)),(10,.int .i64 ((q:Nat):Int))]) ⟨E,E,E,E,trivial⟩ (aQ (aQ (aC (vm ?_))));by_cases h41:((q:Nat):Int)<2
 ·refine zN 9 ?_;obtain⟨o,hA,hA2,hev,hel⟩:=hau q (by omega);have ho5:=hA.lt;obtain⟨p,hp⟩:∃p,ps[o]? =some p:=⟨_,getElem?_eq_getElem (by omega)⟩;have hpp:=hp1 _ _ hp;obtain⟨y,hy,hyb⟩:=RX hpp (q:=q) (by omega);obtain⟨p2,hp2⟩:∃p,ps2[o]? =some p:=⟨_,getElem?_eq_getElem (by omega)⟩;have Fq:=aEx _ _ hp2;obtain⟨y2,hy2,aEz⟩:=RX Fq (q:=q) (by omega);rw[<-hyb,<-aEz]at hev;rw[<-hyb]at hel;have aiz:y2.b.Gs.length=y.b.Gs.length:=by rw[hev]
  refine zQ ?_;refine vv (aj E E (l6 2 xV E underlying35 E kQ E)) ?_;refine zQ ?_;refine dJ eQ (zW (by omega) hA xV hX (M9 6 E O)) ?_;rintro _ SX ⟨rfl,rW⟩;refine⟨_,E,?_⟩;refine zN 9 ?_;refine vv (aj E E (l6 0 rW E underlying35 E kQ E)) ?_;refine zQ ?_;refine dJ eQ (zW (by omega) hA2 rW hX2 (M9 6 E J)) ?_;rintro _ N7 ⟨rfl,pQ⟩;refine⟨_,E,?_⟩;refine zN 8 ?_;have I:=pQ.drew;refine aK 70 I [] ?_;refine aL 16 ?_;refine Bd (v:=.pointer (some ⟨Z,14,none⟩)) 16 E I (λ_ _=>yfb 14) ?_;refine aL 2 ?_;refine Bd (v:=.pointer (some ⟨bA,oA+o*1,none⟩)) 19 E I (λ_ _=>(aM E E E (fq o hBa underlying31 kQ E (by omega)))) ?_;refine Bd (v:=.slice (some ⟨p.1,0,none⟩) 4 4) 20 E I (λ_ aEA=>(aj E E (rT underlying43 E (iy WJ hBa aEA (M9 6 E O) (bE (enc:=gL) (sz:=1) (k:=o) (j:=0) (λ_=>E) hp E))))) ?_;refine dG ?_;refine Bd (v:=.pointer (some ⟨p.1,0+q*6,none⟩)) 22 E I (λ_ _=>(aM E E E (jP q underlying43 kQ E (by omega)))) ?_;refine dG ?_;refine Bd (v:=.slice y.A y.b.Gs.length y.c) 24 E I (λ_ aoC=>(aj E E (rT underlying40 E (by rw[Nat.add_assoc];exact iy hpp.rd E aoC (M9 6 E O) (bE (enc:=BX.cells) (sz:=6) (k:=q) (j:=5) (λ_=>E) hy E))))) ?_;refine Bd (v:=.pointer (some ⟨b33,14,none⟩)) 25 E I (λ_ _=>yfb 14) ?_;refine aL 2 ?_;refine Bd (v:=.pointer (some ⟨bA2,oA2+o*1,none⟩)) 28 E I (λ_ _=>(aM E E E (fq o aiK underlying31 kQ E (by omega)))) ?_;refine Bd (v:=.slice (some ⟨p2.1,0,none⟩) 4 4) 29 E I (λ_ acF=>(aj E E (rT underlying43 E (iy apc aiK acF (M9 6 E J) (bE (enc:=gL) (sz:=1) (k:=o) (j:=0) (λ_=>E) hp2 E))))) ?_;refine dG ?_;refine Bd (v:=.pointer (some ⟨p2.1,0+q*6,none⟩)) 31 E I (λ_ _=>(aM E E E (jP q underlying43 kQ E (by omega)))) ?_;refine dG ?_;refine Bd (v:=.slice y2.A y2.b.Gs.length y2.c) 33 E I (λ_ aEB=>(aj E E (rT underlying40 E (by rw[Nat.add_assoc];exact iy Fq.rd E aEB (M9 6 E J) (bE (enc:=BX.cells) (sz:=6) (k:=q) (j:=5) (λ_=>E) hy2 E))))) ?_;refine Bd (v:=.pointer (some ⟨Z,14,none⟩)) 35 E I (λ_ _=>yfb 14) ?_;refine aL 2 ?_;refine Bd (v:=.pointer (some ⟨bA,oA+o*1,none⟩)) 38 E I (λ_ _=>(aM E E E (fq o hBa underlying31 kQ E (by omega)))) ?_;refine Bd (v:=.slice (some ⟨p.1,0,none⟩) 4 4) 39 E I (λ_ aEC=>(aj E E (rT underlying43 E (iy WJ hBa aEC (M9 6 E O) (bE (enc:=gL) (sz:=1) (k:=o) (j:=0) (λ_=>E) hp E))))) ?_;refine dG ?_;refine Bd (v:=.pointer (some ⟨p.1,0+q*6,none⟩)) 41 E I (λ_ _=>(aM E E E (jP q underlying43 kQ E (by omega)))) ?_;refine dG ?_;refine Bd (v:=.slice y.A y.b.Gs.length y.c) 43 E I (λ_ aED=>(aj E E (rT underlying40 E (by rw[Nat.add_assoc];exact iy hpp.rd E aED (M9 6 E O) (bE (enc:=BX.cells) (sz:=6) (k:=q) (j:=5) (λ_=>E) hy E))))) ?_;refine dG ?_;refine bg 34 ?_;refine uX (i:=34) E E (wg E E E E) E E (iY (vs:=[.slice y.A y.b.Gs.length y.c,.slice y2.A y2.b.Gs.length y2.c]) E eQ ⟨E,E,trivial⟩) (ahS _ _ _ _ _ _ _ _ _ ((hpp.bo y (mem_of_getElem? hy)).1.rd I (M9 6 E O)) ((Fq.bo y2 (mem_of_getElem? hy2)).1.rd I (M9 6 E J)) hev (by omega)) ?_;rintro _ w91 ⟨rfl,aEE⟩;refine⟨_,E,?_⟩;have M:=I.on aEE;refine aL 4 ?_;refine Bd (v:=.pointer (some ⟨Z,14,none⟩)) 48 E M (λ_ _=>yfb 14) ?_
  refine aL 2 ?_;refine Bd (v:=.pointer (some ⟨bA,oA+o*1,none⟩)) 51 E M (λ_ _=>(aM E E E (fq o hBa underlying31 kQ E (by omega)))) ?_;refine Bd (v:=.slice (some ⟨p.1,0,none⟩) 4 4) 52 E M (λ_ axS=>(aj E E (rT underlying43 E (iy WJ hBa axS (M9 6 E O) (bE (enc:=gL) (sz:=1) (k:=o) (j:=0) (λ_=>E) hp E))))) ?_;refine dG ?_;refine Bd (v:=.pointer (some ⟨p.1,0+q*6,none⟩)) 54 E M (λ_ _=>(aM E E E (jP q underlying43 kQ E (by omega)))) ?_;refine dG ?_;refine Bd (v:=.slice y.A y.b.Gs.length y.c) 56 E M (λ_ axT=>(aj E E (rT underlying40 E (by rw[Nat.add_assoc];exact iy hpp.rd E axT (M9 6 E O) (bE (enc:=BX.cells) (sz:=6) (k:=q) (j:=5) (λ_=>E) hy E))))) ?_;refine dG ?_;refine Bd (v:=.pointer (some ⟨b33,14,none⟩)) 58 E M (λ_ _=>yfb 14) ?_;refine aL 2 ?_;refine Bd (v:=.pointer (some ⟨bA2,oA2+o*1,none⟩)) 61 E M (λ_ _=>(aM E E E (fq o aiK underlying31 kQ E (by omega)))) ?_;refine Bd (v:=.slice (some ⟨p2.1,0,none⟩) 4 4) 62 E M (λ_ axU=>(aj E E (rT underlying43 E (iy apc aiK axU (M9 6 E J) (bE (enc:=gL) (sz:=1) (k:=o) (j:=0) (λ_=>E) hp2 E))))) ?_;refine dG ?_;refine Bd (v:=.pointer (some ⟨p2.1,0+q*6,none⟩)) 64 E M (λ_ _=>(aM E E E (jP q underlying43 kQ E (by omega)))) ?_;refine dG ?_;refine Bd (v:=.slice y2.A y2.b.Gs.length y2.c) 66 E M (λ_ axV=>(aj E E (rT underlying40 E (by rw[Nat.add_assoc];exact iy Fq.rd E axV (M9 6 E J) (bE (enc:=BX.cells) (sz:=6) (k:=q) (j:=5) (λ_=>E) hy2 E))))) ?_;refine aL 4 ?_;refine zN 7 ?_;refine vv (v:=.int .i64 ((q+1:Nat):Int)) iI ?_;refine zN 2 ?_;refine bC (q+1) ?_ ⟨E,E,E,E,trivial⟩ (by first|omega|(dsimp only;omega));exact⟨(by omega),M⟩
 refine zN 16 ?_;exact⟨E,xV.Nr⟩
section
variable {m w m':Cl}{n q B k:Nat}{l:bH}{G G':Nat->Gh}{g g':Gh}{b b':aU}{rs us:List cO}{V:Nat->aU}{P:Nat->Option bS}{U:Nat->Bool}{Lt:bH->Prop}{pl:Pl}{sh:Nat->Int×Int}{sv:List jJ}
def aaz:∀ {k:Nat} {l:List Ev},l.length=k->QJ l->(av l).1.ep<=k
 | 0,l,I,h=>by
  rw[length_eq_zero_iff.1 I];rw[yE (l:=[]) iQ (show gZ dV [] []=some (dV,[])from E)];exact Int.le_refl _
 |k+1,l,I,h=>by
  have J:l=l.take k++[l[k]]:=by rw[<-nY Y,<-I,take_length]
  have M:QJ (l.take k++[l[k]]):=J▸h;obtain⟨h1,_,O⟩:=Ra M;have ih:=aaz (k:=k) (l:=l.take k) (by rw[length_take];omega) (nX h);obtain⟨_,_,Z⟩:=alE h1;rw[J,O,Z];have:=(ahM (Q:=(av (l.take k)).1) (e:=l[k])).2
  show(Nu (av (l.take k)).1 l[k]).1.ep<=((k+1:Nat):Int)
  omega
def Un{l:List Ev}(h:QJ l)(J:l.length<2000):QJ (l++[aF]):=by
 have M:=Z8 E h;have he:=aaz E h;have I:iO (av l).1 aF=_:=zq M dQ;have hs:Nu (av l).1 aF=EM (av l).1:=rfl;have O:(Nu (av l).1 aF).2.2=true:=by
  rw[hs];unfold EM;rw[if_neg Y]
 exact OJ h J (by rw[I]) (by rw[I];exact O)
def KT{s:Int}{f:Nat->aU}:∀(J:List Nat) {d:List UInt8},(∀q∈J,(f q).Gq=1->(dL (f q)).2=0/\aH (fH 2 q (f q).ep 0 aF)=0)->0<=s->s<=d.length->d.length+46*J.length<=100000-> ∃d',eG s f J d=some d'
 |[],d,_,_,_,_=>⟨d,E⟩
 |q::r,d,h,M,h1,O=>by
  rw[length_cons]at O;rw[eG];by_cases c:(f q).Gq≠1
  ·rw[if_pos c];exact KT r (λx I=>h x (mem_cons_of_mem _ I)) M h1 Y
  rw[if_neg c];obtain⟨a1,a2⟩:=h q mem_cons_self (Classical.not_not.1 c);rw[if_neg (λe=>e a1),vH (rs:=[fH 2 q (f q).ep 0 aF]) (λx I=>by rw[mem_singleton]at I;subst I;exact a2) M h1 (by rw[length_singleton];omega)];have Z:=xK [fH 2 q (f q).ep 0 aF];rw[length_singleton]at Z;exact KT r (λx I=>h x (mem_cons_of_mem _ I)) M (by rw[length_append];omega) (by rw[length_append];omega)
def DV{q:Nat}{Gs:List Ev}{an:List iW}:∀(il:List Nat) (w:Cl),(w.recovered n q Gs an il).ah=w.ah
 |[],_=>rfl
 |i::r,w=>(DV r (w.QL n q (Gs.getD i aI) (an.getD i eU) (-1))).trans E
def wY(w:Cl)(q:Nat):(w.recover n q).ah=w.ah:=by
 unfold Cl.recover
 split
 ·rfl
 exact DV _ _
def CB{bs:Nat->aU}:∀(h:List Nat) (w:Cl) (j:Nat),((Cl.QG n bs h w).ah j).up=(w.ah j).up
 |[],_,_=>rfl
 |q::r,w,j=>by
  rw[Cl.QG]
  split
  ·exact CB r w j
  rw[CB r]
  show(((w.recover n q).ay n q (dL (bs q)).1).ah j).up=_
  by_cases e:j=n
  ·subst e;rw[show((w.recover j q).ay j q (dL (bs q)).1).ah j=((w.recover j q).ah j).ay q (dL (bs q)).1 from aX _]
   show((w.recover j q).ah j).up=_
   rw[wY]
  rw[show((w.recover n q).ay n q (dL (bs q)).1).ah j=(w.recover n q).ah j from Kg e,wY]
def adS(j:Nat)(h:(m.ah j).up=true):((m.start n).ah j).up=true:=by
 unfold Cl.start
 split
 ·exact h
 split
 ·exact h
 rw[CB];by_cases e:j=n
 ·subst e;rw[aX]
 rw[show ∀X,(m.put n X).ah j=m.ah j from λX=>Kg e];exact h
def adT{T S dS K:Nat}(hq:∀q,q<2-> ∃g,QI m q g/\g.G.length<2000)(hv:Vd m)(hb:cu m T S dS K)(hn:n<5)(hd:(m.ah n).data.length+184<=100000):((m.start n).ah n).up=true:=by
 cases Z:(m.ah n).up with
 |true=>unfold Cl.start;rw[if_pos Z];exact Z
 |false=>
  obtain⟨rs,t,f,M⟩:=(hb.iK n hn).auE Z;obtain⟨r1,r2,r3⟩:=M.rd;have hdl:=congrArg length M.data;rw[length_append]at hdl;obtain⟨d',hw⟩:=KT (s:=(jC (m.ah n).data (m.ah n).MC).2.1) (f:=bD (m.ah n).data (m.ah n).MC) [0,1,2,3] (d:=(jC (m.ah n).data (m.ah n).MC).1) (λq hq4 hr=>by
   have O:q<4:=by simp only[mem_cons,not_mem_nil,or_false]at hq4;omega
   rw[r3 q O]at hr⊢;have J:=M.view Z O;have hq2:q<2:=by
    by_cases c:q<2
    ·exact c
    have:=hv.rol n hn q Y O;unfold vw at this;rw[J]at this;omega
   obtain⟨g,I,hG⟩:=hq q hq2;have hV:vw m q n=f q:=J;have ho:=I.oEp hn (by rw[hV];exact .inl hr);have hev:(f q).Gs=g.G:=by rw[<-hV,ho];exact I.uy
   have hs:=eO (M.lg q O).1;unfold bq at hs;have hgd:=Un I.gd hG;have hf:au ⟨1,(f q).ep,0,0,0,(f q).Gs++[aF]⟩=0:=lS (uR Y Y _) (by rw[hev];exact hgd);refine⟨?_,oI Y O Y Y dQ⟩;unfold dL;rw[if_neg (λh=>h (M.lg q O).1),if_neg Y,if_neg (λh=>h hf)]) (by rw[r1];dsimp only;have:=M.MC;omega) (by rw[r1];dsimp only;omega) (by rw[r1];dsimp only[length_cons,length_nil];omega)
  unfold Cl.start;rw[if_neg (by rw[Z];simp),hw];dsimp only;rw[CB,aX]
def QC.afD(I:QC g V P U Lt pl sh sv):∀k,k+1<g.m->k<=g.len (k+1)
 | 0,_=>zero_le _
 |k+1,h=>by
  have J:=QC.afD I k Y;have:=(I.brk (k+1) Y Y).2;unfold Gh.bd at this;rw[if_neg Y]at this;omega
def QC.aiL(I:QC g V P U Lt pl sh sv):g.m<=g.G.length+1:=by
 by_cases c:g.m<=1
 ·omega
 have h1:=I.afD (g.m-2) Y;have h:=I.MP (k:=g.m-2+1) Y Y;omega
def adU(o:Option bS):yM o<=Wv o:=by
 cases o with
 |none=>exact zero_le _
 |some p=>cases p<;>simp[yM,Wv]
def axW:m.c0<=m.cw:=by
 have h:∀a:List bH,dF bO a<=oz a:=by
  intro a
  induction a with
  |nil=>exact zero_le _
  |cons l r I=>
   have:bO l<=Gc l:=by
    unfold bO Gc
    split
    ·rename_i h;rw[if_pos (.inl h)];exact Nat.le_refl _
    exact zero_le _
   rw[dF,oz];omega
 have J:=h m.Ms;have M:=h (m.ah 0).Md;have O:=h (m.ah 1).Md;have Z:=h (m.ah 2).Md;have i3:=h (m.ah 3).Md;have i4:=h (m.ah 4).Md;have s0:=adU (m.ah 0).Mw;have s1:=adU (m.ah 1).Mw;have s2:=adU (m.ah 2).Mw;have s3:=adU (m.ah 3).Mw;have s4:=adU (m.ah 4).Mw;unfold Cl.c0 Cl.ws Cl.cw qM;omega
def axX{F:Wy}(h:0<=b.ep)(I:F.R<=1):fi F n b<=46*(F.M+2)+92+13892:=by
 have h1:Wz b.Gq<=2:=by unfold Wz;split;omega;split<;>omega
 have J:WA F n b<=13892:=by unfold WA;split<;>omega
 unfold fi;omega
def anE:(Cw m q g).R<=1:=by unfold Cw;dsimp only;split<;>omega
def axY{kk:Nat}(I:∀q,q<2->LW m q (G q) k)(hv:Vd m){T S dS K:Nat}(hb:cu m T S dS K)(J:∀n,n<5->(m.ah n).up=true)(hk:k<=127)(hc:m.cw<=kk)(hkk:kk<=127):Rm m G 99954:=by
 refine⟨J,hv,λq h=>(I q h).qi,λn hn=>?_,λq h=>?_⟩
 ·obtain⟨rs,us,O⟩:=(hb.iK n hn).rC (J n hn);have hd:=(I 0 dQ).data n hn;have hw:=axk (m:=m) (F:=FF m G);have Z:∀q,q<2->fi (FF m G q) n (qG (m.ah n) q)<=19964:=λq h=>by
   have hvb:au (qG (m.ah n) q)=0:=by
    cases hp:(m.ah n).Mw with
    |none=>rw[jR hp];exact O.lg q Y
    |some p=>
     obtain⟨_,h2,h3⟩:=O.F6 p hp;by_cases e:p.q=q
     ·rw[oU hp e];exact(iR O.tape O.lg h2 h3).2
     rw[yu hp e];exact O.lg q Y
   have hs:=eO hvb;unfold bq at hs;have h1:=axX (n:=n) (F:=FF m G q) (b:=qG (m.ah n) q) Y anE;have h2:=(I q h).qi.aiL;have h3:=(I q h).Xq;have h4:(FF m G q).M=(G q).m:=rfl;omega
  have h0:=Z 0 dQ;have h1:=Z 1 dQ;unfold Gm;omega
 have h1:=(I q h).Xq;have h2:=axW (m:=m);have h3:(FF m G q).R<=1:=anE;omega
end
def anF(g:Gr)(cr:Bool):(fF g cr).qu<2:=by
 have p2:=mR (n:=g.b) (m:=2) dQ;unfold fF
 split
 ·unfold RO;dsimp only;omega
 repeat' split
 all_goals first|omega|(dsimp only;omega)
def PD:∀(j:Nat) {m:Cl} {k:Nat} {G:Nat->Gh},(∀q,q<2->LW m q (G q) k)->Vd m->Bs m k->j<=5->k+j<=540-> ∃G':Nat->Gh,(∀q,q<2->LW (m.run (starts j)) q (G' q) (k+j))/\Vd (m.run (starts j))/\Bs (m.run (starts j)) (k+j)/\(∀i,i<j->((m.run (starts j)).ah i).up=true)/\(m.run (starts j)).cw<=m.cw+j
 | 0,m,k,G,J,hv,M,_,_=>⟨G,J,hv,M,λi hi=>by omega,Nat.le_refl _⟩
 |j+1,m,k,G,J,hv,M,hj,hk=>by
  obtain⟨G1,h1,v1,b1,u1,c1⟩:=PD j J hv M Y Y;have e:m.run (starts (j+1))=(m.run (starts j)).QT (IC 9 (j:Int)):=by
   rw[BN];unfold Cl.run;rw[foldl_append];rfl
  rw[e];obtain⟨f1,Z⟩:=Bc (k:=9) (n:=j) (.inl ⟨.inl E,by omega⟩);have I:=RH f1;obtain⟨G2,O⟩:=RY (Q:=λq g'=>LW ((m.run (starts j)).QT (IC 9 (j:Int))) q g' (k+j+1)) λq h=>by
   obtain⟨g',h2,_⟩:=Qn (h1 q h) b1 I Z Y Y;exact⟨g',h2⟩
  have es:(m.run (starts j)).QT (IC 9 (j:Int))=(m.run (starts j)).start j:=rfl;refine⟨G2,λq h=>O q h,Wx v1 b1 I Z (by show(0:Int)<2;decide),(yj b1 I Y:Bs _ (k+j+1)),λi hi=>?_,?_⟩
  ·rw[es];by_cases ei:i=j
   ·subst ei;exact adT (λq h=>⟨_,(h1 q h).qi,by have:=(h1 q h).Xq;omega⟩) v1 b1 Y (by have:=(h1 0 dQ).data i Y;omega)
   exact adS i (u1 i Y)
  have:=afp b1 I;omega
def VL{gs:List Gr}{m:Nat}{cr:Bool}(h:m<=120):∃G k,Rm (kM.run (bQ gs m cr++starts 5)) G 99954/\Bs (kM.run (bQ gs m cr++starts 5)) k/\k<=127:=by
 have e:kM.run (bQ gs m cr++starts 5)=(kK.run ((gs.take m).map (fF · cr))).run (starts 5):=by
  unfold bQ
  show Cl.run ((kM.QT (Sv 0 0)).QT (Sv 1 1)) (((gs.take m).map (fF · cr))++starts 5)=_
  rw[Wt,Wu];unfold Cl.run;rw[foldl_append]
 have hl:((gs.take m).map (fF · cr)).length<=m:=by rw[length_map,length_take];omega
 have I:∀a∈(gs.take m).map (fF · cr),wX a/\a.kd≠1/\a.qu<2:=λa J=>by
  obtain⟨g,_,rfl⟩:=mem_map.1 J;exact⟨RH (Ka g cr).1,(Ka g cr).2,anF g cr⟩
 obtain⟨G,M⟩:=RY (Q:=λq g'=>LW (kK.run ((gs.take m).map (fF · cr))) q g' (2+((gs.take m).map (fF · cr)).length)) λq O=>by
  obtain⟨g',h1,_⟩:=aad Y ((gs.take m).map (fF · cr)) (aeg O) RI (λa J=>⟨(I a J).1,(I a J).2.1⟩) Y;exact⟨g',h1⟩
 have hv:=afs ((gs.take m).map (fF · cr)) anl RI I Y;have hc:=afq ((gs.take m).map (fF · cr)) RI (λa J=>(I a J).1) Y;have Z:=afk ((gs.take m).map (fF · cr)) RI (λa J=>(I a J).1) Y;obtain⟨G',h1,v1,b1,u1,c1⟩:=PD 5 M hv Z Y Y;have h0:kK.cw=0:=rfl;rw[e];exact⟨G',_,axY (kk:=127) h1 v1 b1 u1 Y Y (Nat.le_refl _),b1,by omega⟩
section
variable {m:Cl}{q:Nat}{g:Gh}{G:Nat->Gh}{B:Nat}
def QI.lw(I:QI m q g):∃k,LW m q g k:=by
 refine⟨g.G.length+((m.ah 0).data.length+((m.ah 1).data.length+((m.ah 2).data.length+((m.ah 3).data.length+(m.ah 4).data.length)))),I,by omega,λn hn=>?_⟩
 rcases five hn with rfl|rfl|rfl|rfl|rfl<;>omega
def QI.auth(I:QI m q g):wm m q g.o:=by obtain⟨k,h⟩:=I.lw;exact h.auth
def Rm.state(R:Rm m G B){q:Nat}(h:q<2):wm m q (G q).o/\rp dV (aEs q m.aP)=some (av (G q).G).1/\((m.ah (G q).o).view q).Gs=(G q).G/\QJ (G q).G/\(G q).G.length<=300:=by
 have I:=R.qi q h;obtain⟨_,_,J⟩:=I.MS (R.up _ I.o5);exact⟨I.auth,J,I.uy,I.gd,by have:=R.cap q h;omega⟩
end
section
variable {gs:List Gr}{s:List Ac}
def axZ(gs:List Gr){m:Nat}(h:m<=120)(cr:Bool):Bb (bQ gs m cr)<=2640:=by
 have h1:=WC (bQ gs m cr);have I:=Pt gs m cr;omega
end
end Go.Proofs.YtefabpdniidmbaaGreatDoor
