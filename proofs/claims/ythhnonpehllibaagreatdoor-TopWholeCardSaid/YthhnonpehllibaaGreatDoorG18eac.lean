import Derived.Test.YthhnonpehllibaaGreatDoorG73caf
set_option maxRecDepth 100000
set_option maxHeartbeats 8000000
set_option linter.unusedSimpArgs false
set_option linter.unusedVariables false
namespace Go.Proofs.YthhnonpehllibaaGreatDoor
open ChangeShapes WideShapes RowKit
section
variable {m m':Cl} {n q:Nat} {g g':Gh} {l:iD} {ls:List iD} {rs us:List dB} {X:Nd} {V:Nat->bK} {P:Nat->Option fM} {U:Nat->Bool} {Lt:iD->Prop} {pl:Pl} {sh:Nat->Int×Int} {sv:List kH}
theorem ae6 {q':Nat} {tg:Int} {T S D K:Nat} (I:QI m q g) (hB:fJ m T S D K) (hq':q'<4) (hq:q<4):QI (m.move q' tg) q g/\((vw m q g.o).role=3->(vw (m.move q' tg) q g.o).role=3)/\ ∀ n,((m.move q' tg).ah n).data=(m.ah n).data:=by
 unfold Cl.move
 split
 ·exact ⟨I,id,λ_=>rfl⟩
 rename_i h0
 have hw: ¬ (bn m.off q').2≠0:=λe=>h0 (.inl e);have hne: ¬ (bn m.off q').1.node=tg:=λe=>h0 (.inr (.inl e));obtain ⟨hn,aHa,w3⟩:=uP hw;have hu:(m.ah (bn m.off q').1.node.toNat).up=true:=by
  cases e:(m.ah (bn m.off q').1.node.toNat).up with
  | true=>rfl
  | false=>exact absurd (.inr (.inr e)) h0
 rw [Int.toNat_natCast] at w3
 split
 ·rename_i h1
  obtain ⟨h1,h2⟩:=h1;obtain ⟨g1,g2,g3,g4⟩:=go_ok h1;rw [g4] at h2⊢;dsimp only at h2⊢;have hnn:(bn m.off q').1.node=(((bn m.off q').1.node.toNat:Nat):Int):=by omega
  generalize (bn m.off q').1.node.toNat=n at*;have dS:(m.aZ n q' ⟨2,((m.ah n).bs q').ep,0,tg,0,((m.ah n).bs q').evs⟩).ah=upd m.ah n ((m.ah n).aZ q' ⟨2,((m.ah n).bs q').ep,0,tg,0,((m.ah n).bs q').evs⟩):=rfl
  suffices hs:QI (m.aZ n q' ⟨2,((m.ah n).bs q').ep,0,tg,0,((m.ah n).bs q').evs⟩) q g/\((vw m q g.o).role=3->(vw (m.aZ n q' ⟨2,((m.ah n).bs q').ep,0,tg,0,((m.ah n).bs q').evs⟩) q g.o).role=3) from ⟨hs.1,hs.2,λj=>by
   rw [dS];by_cases e:j=n
   ·subst e;rw [upd_same];rfl
   rw [upd_ne e]⟩
  by_cases e:q'=q
  ·subst e;have hV:=Cn (q:=q') hu;have ho:=I.oEp hn (by rw [hV];exact .inl g1);have dZ:((m.ah n).bs q').ep=g.m:=by rw [<-hV,ho];exact I.zT
   have gF:((m.ah n).aZ q' ⟨2,((m.ah n).bs q').ep,0,tg,0,((m.ah n).bs q').evs⟩).view q'=⟨2,((m.ah n).bs q').ep,0,tg,0,((m.ah n).bs q').evs⟩:=by rw [gK (X:=(m.ah n).aZ q' _) hu];exact upd_same _ _ _
   have hvw:vw (m.aZ n q' ⟨2,((m.ah n).bs q').ep,0,tg,0,((m.ah n).bs q').evs⟩) q'=upd (vw m q') n ⟨2,((m.ah n).bs q').ep,0,tg,0,((m.ah n).bs q').evs⟩:=by rw [tN dS,gF]
   have aaN:((m.ah n).bs q').ep=(m.off.at q').epoch:=by rw [<-w3];exact h2
   have I2:Inv g (upd (vw m q') g.o ⟨2,((m.ah n).bs q').ep,0,tg,0,((m.ah n).bs q').evs⟩) (zq m q') (DI m) (Mf m q') (m.off.at q') (zu m q') (zo m q'):=by
    refine Inv.aal I (λp hp=>?_) ?_ ?_ ?_ ?_ ?_ ?_
    ·obtain ⟨_,hk⟩:=I.tL g.o I.o5 p hp;rw [<-ho] at hk⊢
     cases p with
     | serve k evs op num a=>
      obtain ⟨k1,k2,k3⟩:=hk;exact ⟨k1,by rw [upd_same];exact .inr rfl,k3⟩
     | begun k b=>obtain ⟨_,_,_,_,k4,_⟩:=hk;rw [hV] at k4;exfalso;omega
     | got k b last=>have:=hk.1;rw [hV] at this;exfalso;omega
     | iN k b a=>have:=hk.2.1;rw [hV] at this;exfalso;omega
     | forget k b=>have:=hk.1;rw [hV] at this;exfalso;omega
    ·exact dZ
    ·show ((m.ah n).bs q').evs=_;rw [<-hV,ho];exact I.KG
    ·exact .inr (.inl rfl)
    ·intro _;refine ⟨by rw [<-aaN];exact dZ,?_,g2,by show tg<5;omega⟩
     show ¬ tg=(g.o:Int)
     rw [<-ho,<-hnn];exact λe=>hne e.symm
    ·intro h;rw [<-ho,hV] at h;omega
    intro h;exact absurd (show (2:Int)=3 from h) (by decide)
   rw [<-ho] at I2;exact ⟨QI.mk' I2 hvw (rP dS rfl) (lK dS rfl) (xk dS (λ_ h=>h) hn rfl) rfl rfl rfl,λh=>by rw [<-ho,hV] at h;omega⟩
  have gF:((m.ah n).aZ q' ⟨2,((m.ah n).bs q').ep,0,tg,0,((m.ah n).bs q').evs⟩).view q=(m.ah n).view q:=by
   rw [gK (X:=(m.ah n).aZ q' _) hu,gK hu];exact upd_ne (λh=>e h.symm)
  exact ⟨I.far hn dS gF rfl rfl (λ_ h=>h) (λx hx=> .inl hx) rfl rfl rfl,by rw [nS dS gF];exact id⟩
 exact ⟨I,id,λ_=>rfl⟩
theorem Inv.arp (I:Inv g V P U Lt pl sh sv) (hn:n<5) (hp:P n=none):Inv g (upd V n (jO (V n))) P U Lt pl sh sv:=by
 by_cases hr:(V n).role=2
 ·have ho:=I.oEp hn (.inr hr);subst ho;have e:jO (V g.o)=⟨1,(V g.o).ep,0,0,0,(V g.o).evs⟩:=by unfold jO;rw [if_pos hr]
  rw [e];exact I.aal (λp hp'=>by rw [hp] at hp';cases hp') I.zT I.KG (.inl rfl) (λh=>absurd rfl h) (λh=>by omega) λh=>absurd (show (1:Int)=3 from h) (by decide)
 rw [Eh hr,aI rfl];exact I
theorem Inv.crash {bs:Nat->bK} {x:bK} (I:Inv g V P U Lt pl sh sv) (hn:n<5) (hV:V n=bs q) (hr2: ∀ p,P n=some p->p.q=q) (hx:x=jO (bs q)\/ ∃ p,P n=some p/\p.q=q/\LQ bs p x):
  ∃ g',Inv g' (upd V n x) (upd P n none) (upd U n false) Lt pl sh sv/\mg g g'/\(g'.m=g.m->(V g.o).role=3->(upd V n x g.o).role=3):=by
 have I1:=I.down n;have hpn:(upd P n none) n=none:=upd_same _ _ _;have xq: ∀ {y:bK},((V n).role=3->y.role=3)->((V g.o).role=3->(upd V n y g.o).role=3):=λ{y} h h2=>by
  by_cases e:g.o=n
  ·rw [e] at h2⊢;rw [upd_same];exact h h2
  rw [upd_ne e];exact h2
 have arq: ∃ g',Inv g' (upd V n (jO (bs q))) (upd P n none) (upd U n false) Lt pl sh sv/\mg g g'/\(g'.m=g.m->(V g.o).role=3->(upd V n (jO (bs q)) g.o).role=3):=by
  rw [<-hV];exact ⟨g,I1.arp hn hpn,.refl g,λ_=>xq λh=>by rw [Eh (by omega)];exact h⟩
 rcases hx with hx | ⟨p,hp,hq,hx⟩
 ·rw [hx];exact arq
 obtain ⟨hu,hk⟩:=I.tL n hn p hp
 rcases hx with hx | hx | ⟨k,b,last,j,h1,hx,h3⟩
 ·rw [hx,hq];exact arq
 ·cases p with
  | serve k evs op num a=>
   have e:k=q:=hq;subst e;obtain ⟨k1,k2,k3,k4,k5⟩:=hk;obtain ⟨t1,t2,t3⟩:=I.Qo (by rw [<-k1];exact hu);have hr3:(V n).role≠3:=by unfold serves at k2;omega
   have hx':x=jO { V n with evs:=evs }:=by rw [hx,hV];rfl
   have I2:Inv (g.app op) (upd V n { V n with evs:=evs }) (upd P n none) (upd U n false) Lt pl sh sv:=by
    subst k1;exact I1.append (e:=op) (b:={ V g.o with evs:=evs }) hpn (upd_same _ _ _) hr3 t1 (by rw [<-k3];exact k5) rfl rfl rfl k3
   have I3:=I2.arp hn hpn;rw [upd_same,sS,<-hx'] at I3;exact ⟨_,I3,⟨Nat.le_refl _,λ_ _=>rfl,by show (g.G++[op]).length<=_;simp⟩,λ_=>xq λh=>absurd h hr3⟩
  | begun k b=>
   obtain ⟨j,j1,j2,j3,j4,j5⟩:=hk;have hx':x=b:=by rw [hx];show jO b=b;rw [j1];exact IU (.inl rfl)
   have I2:=I1.QW (b:=b) hn (I.Fh j4) hpn (by rw [j1];exact I.NT j2 j3 j5) (by rw [j1];show _<=(j:Int)+1;omega);rw [hx'];exact ⟨g,I2,.refl g,λ_=>xq λh=>by omega⟩
  | got k b last=>
   obtain ⟨j1,j2,j3⟩:=hk
   cases last with
   | true=>
    obtain ⟨a1,a2,a3,a4,a5⟩:=j3 rfl;have hx':x=⟨1,(g.m:Int)+1,0,0,0,g.G++[aM]⟩:=by rw [hx];show jO b=_;rw [a4];rfl
    have I2:=I1.activate (T:=n) a2 a3 hpn (upd_same _ _ _) a5 (by rw [a1];exact Int.le_refl _);rw [hx'];exact ⟨_,I2,⟨by show g.m<=g.m+1;omega,λk hk=>upd_ne (by omega),by show (g.G++[aM]).length<=_;simp⟩,λh=>by
     have:g.m+1=g.m:=h;omega⟩
   | false=>
    obtain ⟨j,a1,a2,a3⟩:=j2 rfl;have hx':x=b:=by rw [hx];show jO b=b;rw [a1];exact IU (.inl j1)
    have I2:=I1.QW (b:=b) hn (I.Fh (.inr j1)) hpn (by rw [a1];exact I.JW hn j1 a3) (by rw [a1];exact Int.le_refl _);rw [hx'];exact ⟨g,I2,.refl g,λ_=>xq λh=>by omega⟩
  | iN k b at_=>
   obtain ⟨ho,j1,j2⟩:=hk;obtain ⟨t1,t2,t3⟩:=I.Qo (by rw [<-ho];exact hu);have Vp:=I.Uz (by rw [<-ho];omega);have hx':x=b:=by rw [hx];show jO b=b;rw [j2];exact IU (.inr (.inr (.inl rfl)))
   have I2:Inv g (upd V g.o b) (upd P n none) (upd U n false) Lt pl sh sv:=by
    refine Inv.aal I1 (λp' hp'=>?_) ?_ ?_ ?_ ?_ ?_ λ_=>t2
    ·rw [<-ho,upd_same] at hp';cases hp'
    ·rw [j2,ho];exact I.zT
    ·rw [j2,ho];exact I.KG
    ·rw [j2];exact .inr (.inr rfl)
    ·intro _;rw [j2,ho];exact Vp
    intro h;rw [<-ho] at h;omega
   rw [<-ho] at I2;rw [hx'];exact ⟨g,I2,.refl g,λ_=>xq λ_=>by rw [j2]⟩
  | forget k b=>
   obtain ⟨j1,j2,j3⟩:=hk;obtain ⟨hne,hoth⟩:=I.KM hn j1 j3;have hx':x=b:=by rw [hx];show jO b=b;rw [j2];exact IU (.inr (.inl rfl))
   have I2:=I1.QW (b:=b) hn hne hpn (by rw [j2];exact hoth) (by rw [j2];exact Int.le_refl _);rw [hx'];refine ⟨g,I2,.refl g,λ_ h=>?_⟩;rw [upd_ne (λe=>hne e.symm)];exact h
 subst h1;have e:k=q:=hq;subst e;obtain ⟨j1,j2,j3⟩:=hk;have hev: ∃ i,b.evs.take ((bs k).evs.length+j)=g.G.take i/\ ∀ k':Nat,(V n).ep=(k':Int)+1->i<=g.bd k':=by
  cases last with
  | true=>
   obtain ⟨a1,a2,a3,a4,a5⟩:=j3 rfl;have hb:b.evs=g.G++[aM]:=by rw [a4]
   simp only [if_true] at h3;rw [hb,List.length_append,List.length_singleton] at h3;refine ⟨(bs k).evs.length+j,by rw [hb,pO (by omega)],λk' hk'=>?_⟩;have:k'=g.m:=by omega
   subst this;unfold Gh.bd;rw [if_pos rfl];omega
  | false=>
   obtain ⟨i,a1,a2,a3⟩:=j2 rfl;have hb:b.evs=g.G.take i:=by rw [a1]
   refine ⟨min ((bs k).evs.length+j) i,by rw [hb,List.take_take],λk' hk'=>Nat.le_trans (Nat.min_le_right _ _) (a3 k' hk')⟩
 obtain ⟨i,e1,e2⟩:=hev;have hx':x={ V n with evs:=g.G.take i }:=by rw [hx,e1,hV]
 have I2:=I1.QW (b:={ V n with evs:=g.G.take i }) hn (I.Fh (.inr j1)) hpn (I.JW hn j1 e2) (Int.le_refl _);rw [hx'];exact ⟨g,I2,.refl g,λ_=>xq λh=>by omega⟩
theorem aaO {keep:Int} {T S D K:Nat} (I:QI m q g) (hB:fJ m T S D K) (hn:n<5) (hq:q<4) (hk:0<=keep):(∃ g',QI (m.crash n keep) q g'/\mg g g'/\Co q g g' m (m.crash n keep))/\ ∀ j,((m.crash n keep).ah j).data.length<=(m.ah j).data.length:=by
 unfold Cl.crash
 split
 ·rename_i hu
  change (∃ g',QI (m.put n ((m.ah n).crashed keep)) q g'/\mg g g'/\Co q g g' m (m.put n ((m.ah n).crashed keep)))/\ ∀ j,((m.put n ((m.ah n).crashed keep)).ah j).data.length<=(m.ah j).data.length;obtain ⟨rs,us,hU⟩:=(hB.kW n hn).Le hu;obtain ⟨rs',t,f,hd,hf⟩:=Sd hU hk;have dS:(m.put n ((m.ah n).crashed keep)).ah=upd m.ah n ((m.ah n).crashed keep):=rfl;have gF:((m.ah n).crashed keep).view q=f q:=hd.view rfl hq;have hV:=Cn (q:=q) hu;have hP: ∀ p,zq m q n=some p->(m.ah n).pend=some p/\p.q=q:=λp hp=>by
   unfold zq at hp
   cases e:(m.ah n).pend with
   | none=>rw [e] at hp;cases hp
   | some p'=>
    rw [e] at hp;unfold pq at hp;dsimp only at hp
    split at hp
    ·cases hp;exact ⟨rfl,by assumption⟩
    cases hp
  obtain ⟨g',I2,N2,R2⟩:=Inv.crash I hn hV (λp hp=>(hP p hp).2) (x:=f q) (by
   rcases hf q hq with h | ⟨p,h1,h2,h3⟩
   ·exact .inl h
   exact .inr ⟨p,by unfold zq;rw [h1];exact ab5 h2,h2,h3⟩)
  have hvw:vw (m.put n ((m.ah n).crashed keep)) q=upd (vw m q) n (f q):=by rw [tN dS,gF]
  refine ⟨⟨g',QI.mk' I2 hvw (by rw [sV dS];rfl) (by rw [UG dS];rfl) (xk dS (λx hx=>by cases hx) hn rfl) rfl rfl rfl,N2,λh1 h2=>by
   have:=R2 h1 h2;rw [<-hvw] at this;exact this⟩,λj=>?_⟩
  show ((m.put n ((m.ah n).crashed keep)).ah j).data.length<=_
  rw [dS];by_cases e:j=n
  ·subst e;rw [upd_same]
   show (mo _ _ _).1.length<=_
   unfold mo
   split
   ·split
    ·simp
    split
    ·simp
    simp;omega
   simp
  rw [upd_ne e];exact Nat.le_refl _
 exact ⟨⟨g,I,.refl g,λ_ h=>h⟩,λ_=>Nat.le_refl _⟩
end
end Go.Proofs.YthhnonpehllibaaGreatDoor
