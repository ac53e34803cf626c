import Derived.Test.YtlfgjcahpppbbaaGreatDoorG22a8e
import Derived.Test.YtlfgjcahpppbbaaGreatDoorGb297a
import Derived.Test.YtlfgjcahpppbbaaGreatDoorGbc32e
import Derived.Test.YtlfgjcahpppbbaaGreatDoorGc1ad1
set_option maxRecDepth 100000
set_option maxHeartbeats 8000000
set_option linter.unusedSimpArgs false
set_option linter.unusedVariables false
namespace Go.Proofs.YtlfgjcahpppbbaaGreatDoor
open ChangeShapes WideShapes RowKit
theorem Nu {B kb n turn dc:Nat} {up:Bool} {dA:Option Addr} {data:List UInt8} {syn:Int} {Hh:Nat->Pl} {Us:Nat->Bool} {bv iv pv:Value} {w0 w:World} {fs:List Fact} {L:List Fact} {rs:List dD} {RA:Option Addr} {rc:Nat} (hw:eZ data syn rs=none) (hrs:Ro fs 10 RA rs.length (rs.flatMap dD.cells)) (htp:Ro L 1 dA data.length (byteCells data)) (hL: ∀ f∈L,f∈fs) (hrl:rs.length<=1000000) (S:St B w0 w ((.blk kb (dI n up (.slice dA data.length dc) syn bv Hh Us iv pv turn) 113)::fs)):
  Calls tP 61 #[pV kb 0,.slice RA rs.length rc] w (λe w'=>e= .returned (.bool false)/\St B w0 w' ((.blk kb (dI n up (.slice dA data.length dc) syn bv Hh Us iv pv turn) 113)::fs)):=(Gf (rc:=rc) hrs htp hL hrl S).mono λe w' h=>h.elim (λh=>h.2) λ⟨_,_,_,_,h,_⟩=>by rw [hw] at h;cases h
theorem Nv {B kb n turn dc:Nat} {up:Bool} {dA:Option Addr} {data:List UInt8} {syn:Int} {Hh:Nat->Pl} {Us:Nat->Bool} {bv iv pv:Value} {w0 w:World} {fs:List Fact} {L:List Fact} {d':List UInt8} {rs:List dD} {RA:Option Addr} {rc:Nat} (hw:eZ data syn rs=some d') (hrs:Ro fs 10 RA rs.length (rs.flatMap dD.cells)) (htp:Ro L 1 dA data.length (byteCells data)) (hL: ∀ f∈L,f∈fs) (hrl:rs.length<=1000000) (S:St B w0 w ((.blk kb (dI n up (.slice dA data.length dc) syn bv Hh Us iv pv turn) 113)::fs)):
  Calls tP 61 #[pV kb 0,.slice RA rs.length rc] w (λe w'=> ∃ A' c' N,e= .returned (.bool true)/\Ro (L++N) 1 A' d'.length (byteCells d')/\St B w0 w' ((.blk kb (dI n up (.slice A' d'.length c') syn bv Hh Us iv pv turn) 113)::(fs++N))):=(Gf (rc:=rc) hrs htp hL hrl S).mono λe w' h=>h.elim (λh=>by rw [hw] at h;cases h.1) λ⟨d2,A',c',N,h,h1,h2,h3⟩=>by
 rw [hw] at h
 cases h;exact ⟨A',c',N,h1,h2,h3⟩
theorem ahu {kn kw:Nat} {L:List Fact}: ∀ {p:Option dB} {v:Value},pI kn kw L p v->v.oneCell'=true
 | none,v,h=>by
  have h':v= .nilFunc:=h;subst h';rfl
 | some p,v,h=>by
  obtain ⟨f,xs,ys,rfl⟩:=KC h;rfl
theorem axz {me turn:Nat} {up:Bool} {tv bv iv pv:Value} {syn:Int} {H:Nat->Pl} {U:Nat->Bool} (h1:tv.oneCell'=true) (h2:bv.oneCell'=true) (h3:iv.oneCell'=true) (h4:pv.oneCell'=true): ∀ u∈(dI me up tv syn bv H U iv pv turn).toList,u.oneCell'=true:=by
 intro u hu;simp only [dI,List.mem_cons,List.not_mem_nil,or_false] at hu
 rcases hu with rfl | rfl | rfl | rfl | rfl | rfl | rfl | rfl | rfl | rfl | rfl | rfl | rfl | rfl | rfl | rfl | rfl | rfl | rfl | rfl<;>first | rfl | assumption
section
variable {V:Nat->bn} {k n:Nat} {s:Int} {d d':List UInt8} {bs ws:List BX} {L:List Fact} {m mm md:Cl} {X:Nd} {y x:BX} {b:bn} {H:List LX}
theorem PE (hc: ∀ y∈bs,y.b.evs.length<=y.c) (y:BX) (hy:y∈bs):Ct (fB bs) y:=⟨Ro.bJ (List.mem_map.2 ⟨y,hy,rfl⟩),hc y hy⟩
theorem Wq (h:bs.map BX.b=vB V) (hk:k<4): ∃ y,bs[k]? =some y/\y.b=V k:=by
 have hl:bs.length=4:=by have:=congrArg List.length h;simpa [vB] using this
 refine ⟨bs[k],List.getElem?_eq_getElem oQ,?_⟩;have h1:(bs.map BX.b)[k]? =some (bs[k]).b:=by rw [List.getElem?_map,List.getElem?_eq_getElem oQ];rfl
 rw [h] at h1;have h2:k=0\/k=1\/k=2\/k=3:=oQ
 rcases h2 with rfl | rfl | rfl | rfl<;>(simp only [vB] at h1;exact (Option.some.inj h1).symm)
theorem asr:vB V=vB (λj=>if j<0/\(V j).role=1 then (dV (V j)).1 else V j):=Bl λj _=>by rw [if_neg oQ]
theorem ads (h: ¬ (V k).role=1):vB (λj=>if j<k/\(V j).role=1 then (dV (V j)).1 else V j)=vB (λj=>if j<k+1/\(V j).role=1 then (dV (V j)).1 else V j):=Bl λj _=>by
 by_cases e:j=k
 ·subst e;rw [if_neg (λh'=>h h'.2),if_neg (λh'=>h h'.2)]
 by_cases e2:j<k/\(V j).role=1
 ·rw [if_pos e2,if_pos ⟨by omega,e2.2⟩]
 rw [if_neg e2,if_neg (λh'=>e2 ⟨by omega,h'.2⟩)]
theorem adt (hk:k<4) (hr:(V k).role=1) (hb:(dV (V k)).1=b):(vB (λj=>if j<k/\(V j).role=1 then (dV (V j)).1 else V j)).set k b=vB (λj=>if j<k+1/\(V j).role=1 then (dV (V j)).1 else V j):=by
 rw [VZ hk];refine Bl λj _=>?_;by_cases e:j=k
 ·subst e;rw [upd_same,if_pos ⟨by omega,hr⟩,hb]
 rw [upd_ne e];by_cases e2:j<k/\(V j).role=1
 ·rw [if_pos e2,if_pos ⟨by omega,e2.2⟩]
 rw [if_neg e2,if_neg (λh'=>e2 ⟨by omega,h'.2⟩)]
theorem adu {r:List Nat} (h: ¬ (V k).role=1):eB s V (k::r) d=eB s V r d:=by rw [eB,if_pos h]
theorem adv {r:List Nat} (h:(V k).role=1) (h1:(dV (V k)).2=0) (h2:eZ d s [fG 2 k (V k).ep 0 aI]=some d'):eB s V (k::r) d=eB s V r d':=by
 rw [eB,if_neg (λe=>e h),if_neg (λe=>e h1),h2]
theorem ahv {r:List Nat} (h:(V k).role=1) (h1: ¬ (dV (V k)).2=0):eB s V (k::r) d=none:=by rw [eB,if_neg (λe=>e h),if_pos h1]
theorem ahw {r:List Nat} (h:(V k).role=1) (h2:eZ d s [fG 2 k (V k).ep 0 aI]=none):eB s V (k::r) d=none:=by
 rw [eB,if_neg (λe=>e h)]
 split
 ·rfl
 rw [h2]
theorem KM: ∀ {ql:List Nat} {d d':List UInt8},eB s V ql d=some d'-> ∀ q∈ql,(V q).role=1->au (iE (V q))=0/\dV (V q)=(iE (V q),0)
 | [],d,d',h,q,hq,_=>by simp at hq
 | k::r,d,d',h,q,hq,hr=>by
  rw [eB] at h;by_cases c1:(V k).role≠1
  ·rw [if_pos c1] at h
   rcases List.mem_cons.1 hq with rfl | hq
   ·exact absurd hr c1
   exact KM h q hq hr
  rw [if_neg c1] at h;by_cases c2:(dV (V k)).2≠0
  ·rw [if_pos c2] at h;cases h
  rw [if_neg c2] at h
  split at h
  ·cases h
  rcases List.mem_cons.1 hq with rfl | hq
  ·exact ZX hr c2
  exact KM h q hq hr
theorem adw (h:eB s V [0,1,2,3] d=some d') (q:Nat) (hq:q<4):(V q).role=1->au (iE (V q))=0/\dV (V q)=(iE (V q),0):=KM h q (by
 have h2:q=0\/q=1\/q=2\/q=3:=oQ
 rcases h2 with rfl | rfl | rfl | rfl<;>decide)
theorem ahx (hw:(V k).role=1->au (iE (V k))=0/\dV (V k)=(iE (V k),0)) (hx:x.b=if k<4/\(V k).role=1 then (dV (V k)).1 else V k) (hr: ¬ x.b.role=1): ¬ (V k).role=1:=λe=>hr (by
 rw [hx]
 split
 ·rw [(hw e).2];rfl
 exact e)
theorem ahy (hx:x.b=if k<4/\(V k).role=1 then (dV (V k)).1 else V k) (hr:x.b.role=1):(V k).role=1:=by
 by_cases c:(V k).role=1
 ·exact c
 rw [hx,if_neg (λh=>c h.2)] at hr;exact hr
theorem YR {r:List Nat} (h: ¬ (V k).role=1):Cl.woken n V (k::r) mm=Cl.woken n V r mm:=by rw [Cl.woken,if_pos h]
theorem YS {r:List Nat} (h:(V k).role=1) (hm:md=((mm.recover n k).aK n k (dV (V k)).1).tell n k aI eD (-1)):Cl.woken n V (k::r) mm=Cl.woken n V r md:=by rw [Cl.woken,if_neg (λe=>e h),hm]
theorem adx {q:Nat} (hX:mm.ah n=X):(mm.aK n q b).tell n q aI eD (-1)={ mm.put n (X.aK q b) with aQ:=mm.aQ++[⟨n,q,b.ep,aI,eD,-1⟩],shown:=iy mm.shown n q (b.ep,(b.evs.length:Int)) }:=by
 subst hX;have e:((mm.aK n q b).ah n).bs q=b:=by
  show (upd mm.ah n _ n).bs q=b
  rw [upd_same];exact upd_same _ _ _
 unfold Cl.tell;rw [e];rfl
theorem alS (h: ∀ q,q<4->au (X.bs q)=0) (hb:au b=0) (j:Nat) (hj:j<4):au ((X.aK k b).bs j)=0:=by
 show au (upd X.bs k b j)=0
 by_cases e:j=k
 ·rw [e,upd_same];exact hb
 rw [upd_ne e];exact h j hj
theorem JB {f:Nat->Nat->Int×Int} {a q:Nat} {e:Int} {l:List Ev} (h: ∀ a b,0<=(f a b).2) (i j:Nat):0<=(iy f a q (e,(l.length:Int)) i j).2:=by
 unfold iy
 split
 ·exact Int.natCast_nonneg _
 exact h i j
theorem Gq (m:Cl) (n q:Nat) (h: ∀ a b,0<=(m.shown a b).2):(m.recover n q).ah=m.ah/\(m.recover n q).fly=m.fly/\ ∀ a b,0<=((m.recover n q).shown a b).2:=by
 have tl: ∀ (m:Cl) e a u,(∀ a b,0<=(m.shown a b).2)-> ∀ i j,0<=((m.tell n q e a u).shown i j).2:=λm e a u h=>JB h;have rc: ∀ (il:List Nat) (m:Cl) evs an,(∀ a b,0<=(m.shown a b).2)->(m.recovered n q evs an il).ah=m.ah/\(m.recovered n q evs an il).fly=m.fly/\ ∀ i j,0<=((m.recovered n q evs an il).shown i j).2:=by
  intro il
  induction il with
  | nil=>intro m evs an h;exact ⟨rfl,rfl,h⟩
  | cons i r ih=>
   intro m evs an h;rw [Cl.recovered];exact ih _ evs an (tl m _ _ _ h)
 unfold Cl.recover
 split
 ·exact ⟨rfl,rfl,tl m _ _ _ h⟩
 exact rc _ m _ _ h
theorem ahz (h:(m.ah n).up=true):m.start n=m:=if_pos h
theorem Uh (hX:m.ah n=X) (hu:X.up=false) (h:eB (jr X.data X.syn).2.1 (bC X.data X.syn) [0,1,2,3] (jr X.data X.syn).1=none):m.start n=m:=by
 subst hX;unfold Cl.start;rw [if_neg (by rw [hu];simp),h]
theorem ady (hX:m.ah n=X) (hu:X.up=false) (h:eB (jr X.data X.syn).2.1 (bC X.data X.syn) [0,1,2,3] (jr X.data X.syn).1=some d):
  m.start n=Cl.woken n (bC X.data X.syn) [0,1,2,3] (m.put n { X.blank with up:=true,data:=d,syn:=((d.length:Nat):Int),bs:=bC X.data X.syn }):=by
 subst hX;unfold Cl.start;rw [if_neg (by rw [hu];simp),h]
def hwl (ws:List BX):List LX:=ws.map λy=>⟨{ evs:=y.b.evs },y.A,y.c⟩
theorem asu (h: ∀ u∈hwl ws++H,Rt L u) (hx:ws[k]? =some x):Ct L x:=h ⟨{ evs:=x.b.evs },x.A,x.c⟩ (List.mem_append_left _ (List.mem_map.2 ⟨x,List.mem_of_getElem? hx,rfl⟩))
theorem alT {P:LX->Prop} (h: ∀ y∈ws,P ⟨{ evs:=y.b.evs },y.A,y.c⟩): ∀ u∈hwl ws++H,u∈H\/P u:=λu hu=>(List.mem_append.1 hu).elim (λh1=>by obtain ⟨y,hy,rfl⟩:=List.mem_map.1 h1;exact .inr (h y hy)) .inl
theorem Ct.more {N:List Fact} (h:Ct L x):Ct (L++N) x:=h.mono λ_ hf=>List.mem_append_left _ hf
theorem ahA {K:CK} {B:Nat} {w0 w:World} {fs:List Fact} (h:Wd K B w0 w fs m (hwl ws++H)):Wd K B w0 w fs m H:=by
 obtain ⟨R,G,S⟩:=h;exact ⟨R,⟨G.fly,G.flo,G.kr,G.arr,λu hu=>G.hld u (List.mem_append_right _ hu)⟩,S⟩
theorem aDM {E N Ls:List Fact} {f:Fact} (h:f∈E):f∈L++((E++N)++Ls):=List.mem_append_right _ (List.mem_append_left _ (List.mem_append_left _ h))
theorem aDN {E Ls:List Fact} {f:Fact} (h:f∈E):f∈L++(E++Ls):=List.mem_append_right _ (List.mem_append_left _ h)
end
theorem Vv {K:CK} {B n kn kw:Nat} {w0 w:World} {fs:List Fact} {m:Cl} {H:List LX} (hn:n<5) (hkn:K.nb n=kn) (bU:K.wb=kw) (hu:Uk B w0) (hB1:m.fly.length<=1000000000) (hB2:m.aQ.length<=900000000000) (HW:Wd K B w0 w fs m H) (hT:DC (m.ah n).data (m.ah n).syn=some (vB (bC (m.ah n).data (m.ah n).syn))) (hvv: ∀ q,q<4->au (bC (m.ah n).data (m.ah n).syn q)=0) (hbz:(uI (jr (m.ah n).data (m.ah n).syn).1 (jr (m.ah n).data (m.ah n).syn).2.1).1.length*80<=reachBytes) (hmay: ∀ d,eB (jr (m.ah n).data (m.ah n).syn).2.1 (bC (m.ah n).data (m.ah n).syn) [0,1,2,3] (jr (m.ah n).data (m.ah n).syn).1=some d->cB d (jr (m.ah n).data (m.ah n).syn).2.1=true) (hsh: ∀ a b,0<=(m.shown a b).2):
    Calls tP 45 #[pV kw 0,pV kn 0] w (λe w'=>e= .returned (.tuple #[])/\Wd K B w0 w' fs (m.start n) H):=by
 obtain ⟨R,G,S0⟩:=HW.open hn;have hfl:R.fx.length=m.fly.length:=by rw [<-G.fly,List.length_map]
 have NG:=G.kr n hn;obtain ⟨X,hX⟩: ∃ X,m.ah n=X:=⟨_,rfl⟩;obtain ⟨z,hz⟩: ∃ z,R.nx n=z:=⟨_,rfl⟩;rw [hX,hz] at S0 NG;have hL: ∀ f∈R.L,f∈gy K R m fs n:=λf h=>List.mem_append_right _ (List.mem_append_right _ h);obtain ⟨rr,hrr⟩: ∃ r,gy K R m fs n=r:=⟨_,rfl⟩;rw [hrr] at S0 hL;have S:St B w0 w (cN kn n X z z.pv (cF kw R m rr)):=by subst hkn;subst bU;exact S0
 clear S0 HW;have hlen:=(S.own 1 rfl).1;rw [gL (sz:=6) (λ_=>rfl)] at hlen;have aDO:z.pv.oneCell'=true:=ahu NG.nL;obtain ⟨P1,hP1⟩: ∃ r,jr X.data X.syn=r:=⟨_,rfl⟩;rw [hX] at hT hvv hbz hmay;have HRd:=λw h=>Iy z.tA z.tc X.data X.syn w h hT hbz;rw [hP1] at HRd hmay;refine gu 113 Tryz.func45 ?_;refine cw [0,1] ?_;refine zN 9 ?_
 cases hb1:(X.up)
 ·refine aZ (l':=[(0,pV kw 0),(1,pV kn 0),(18,.bool false)]) FJ (kM rfl (pQ (gF (aH (ay (vm ?_))))));refine zN 2 ?_;refine vv (aj rfl rfl (cZ (cs:=[.slice z.tA X.data.length z.tc,iV X.syn]) (St.rg 0 S rfl (sw)))) ?_;refine dF eQ (HRd _ (NG.yD.rd S (memT 7 rfl hL))) ?_;rintro _ w9 ⟨A2,c3,bB,bs,hbm,hbl,hbc,rfl,T8⟩;refine ⟨_,rfl,?_⟩;have qx:=S.ext T8 (by simp [KA,Fact.IC]);have qI:St B w0 w9 ((oB bB bs)::(.bJ 1 A2 P1.1.length (byteCells P1.1))::(cN kn n X z z.pv (cF kw R m (rr++fB bs)))):=St.perm qx (List.Perm.cons _ (List.Perm.cons _ (List.perm_append_comm (l₁:=fB bs))));clear S;refine zN 3 ?_;refine gq qI zI ?_;intro b12 Ey kD;refine stA 0 kD kQ ?_;intro JV lV;refine zN 6 ?_;refine dF eQ (Nn _ 4 4 (bs.flatMap BX.cells) _ (St.ord 1 lV rfl) (ak4 _) dQ) ?_;rintro _ DW ⟨M6,c18,rfl,aDP,aDQ⟩;refine ⟨_,rfl,?_⟩;have iX:=lV.uo aDP aDQ;obtain ⟨wB,hWA⟩:=ET (iX.own 0 rfl) dQ;subst hWA;refine zN 8 ?_;refine gq iX awh ?_;intro Av Oq jE;refine stA 0 jE kQ ?_ (h1:=by exact axz rfl rfl rfl aDO);intro Om tX;refine zN 6 ?_;refine jD (row':=dI n X.up (.slice A2 P1.1.length c3) P1.2.1 (.slice (aD z.bb 0) 4 4) X.hints X.sure (.slice z.iA z.ix.length z.ic) (z.pv) X.turn) 0 tX kQ ?_;intro VN qH;refine zN 11 ?_;have Cj:=qH.aP [2];have kV:St B w0 VN (_::_::_::_::_::_::_::_::_::_::((rr++fB bs)++[.bJ 1 A2 P1.1.length (byteCells P1.1)])):=Cj.toEnd 3 rfl;have pU:=kV.eG [9,9,9,9,9,9,9];refine dN (X:=Nat×(Option Addr)×Nat×(List UInt8)×(List BX)×(List Fact)) (λxv=>[(0,pV kw 0),(1,pV kn 0),(5,.slice (aD bB 0) 4 4),(6,.slice (aD wB 0) 4 c18),(7,pV Av 0),(34,.slice (aD bB 0) 4 4),(35,iV 4),(36,iV ((xv.1:Nat):Int))]) (λxv wr=>(xv.1<=4)/\(eB P1.2.1 (bC X.data X.syn) [0,1,2,3] P1.1=eB P1.2.1 (bC X.data X.syn) ((List.range 4).drop xv.1) xv.2.2.2.1)/\(xv.2.2.2.2.1.map BX.b=vB (λj=>if j<xv.1/\((bC X.data X.syn) j).role=1 then (dV ((bC X.data X.syn) j)).1 else (bC X.data X.syn) j))/\(∀ y∈xv.2.2.2.2.1,Ct (fB bs++xv.2.2.2.2.2) y)/\(Ro xv.2.2.2.2.2 1 xv.2.1 xv.2.2.2.1.length (byteCells xv.2.2.2.1))/\St B w0 wr (cN kn n X z z.pv (cF kw R m ((bN Av n X.up xv.2.1 xv.2.2.2.1 xv.2.2.1 P1.2.1 z.bb X.hints X.sure z.iA z.ix z.ic z.pv X.turn)::(.own 57 6 (.slice (aD wB 0) 4 c18) 4 ((xv.2.2.2.2.1).flatMap BX.cells))::(oB bB bs)::((rr++fB bs)++xv.2.2.2.2.2))))) (λxv=>4-xv.1) (0,A2,c3,P1.1,bs,[.bJ 1 A2 P1.1.length (byteCells P1.1)]) ?_ ?_ ?_
  ·exact ⟨Nat.zero_le _,rfl,(by rw [hbm];exact asr),(λy hy=>(PE hbc y hy).mono λf hf=>List.mem_append_left _ hf),(Ro.bJ (List.mem_singleton.2 rfl)),pU⟩
  ·exact Ho
  rintro ⟨k,A9,c9,d9,ws,N9⟩ ZA ⟨ape,Sq,Xn,aiF,Sd,qo⟩
  try dsimp only at ape Sq Xn aiF Sd qo
  refine aZ (l':=[(0,pV kw 0),(1,pV kn 0),(5,.slice (aD bB 0) 4 4),(6,.slice (aD wB 0) 4 c18),(7,pV Av 0),(34,.slice (aD bB 0) 4 4),(35,iV 4),(36,iV ((k:Nat):Int))]) Ho (aH (ay ?_));by_cases h40:((k:Nat):Int)<4
  ·refine zN 10 ?_;have hk4:k<4:=oQ;obtain ⟨y,hy,hyV⟩:=Wq hbm hk4;have sW:=PE hbc y (List.mem_of_getElem? hy);obtain ⟨y0,hy0,_⟩:=Wq Xn hk4;have hlw:ws.length=4:=by have:=congrArg List.length Xn;simpa [vB] using this
   have hvk:=hvv k hk4;have hln:=jZ (jv hvk);have zC:y.b.evs.length*48<=reachBytes:=by rw [hyV];unfold reachBytes;omega
   have Mq:=xJ hvk;refine zN 2 ?_;refine vv (jf k) ?_;refine vv (aj rfl rfl (cZ (cs:=BX.cells y) (Rd.uq (St.ord 9 qo rfl) (λ_ _ h=>aW (enc:=BX.cells) (sz:=6) (λ_=>rfl) hy h)))) ?_;refine gq qo fP ?_;intro b41 VJ tT;refine zQ ?_;refine stA 0 tT kQ ?_;intro QX nX;refine zN 7 ?_;by_cases h46:y.b.role=1
   ·refine zN 7 ?_;obtain ⟨BR,qp⟩: ∃ r,dV y.b=r:=⟨_,rfl⟩;have HP:=λw h=>Yj y.b.role y.b.ep y.b.fr y.b.tg y.b.rd y.A y.c y.b.evs w h zC;rw [show dV ⟨y.b.role,y.b.ep,y.b.fr,y.b.tg,y.b.rd,y.b.evs⟩=BR from qp] at HP;refine zN 2 ?_;refine dF eQ (HP _ (sW.1.rd nX (memT 11 rfl (λf hf=>List.mem_append_left _ (List.mem_append_right _ hf))))) ?_;rintro _ VK ⟨M7,c48,axA,rfl,T52⟩;refine ⟨_,rfl,?_⟩;have uX:=nX.ext T52 rfl;refine zN 3 ?_;refine gq uX fP ?_;intro b53 w54 uY;refine stA 0 uY kQ ?_;intro w56 qW;refine zN 7 ?_;refine cab eQ qW (jh 2 k y _) ?_;intro w58 Ar;refine gq Ar xE ?_;intro JM VQ vP;refine stA 0 vP kQ ?_;intro ZK Bd;refine zN 4 ?_;refine vv (v:= .agg #[iV 4,iV 0,iV 0,iV 0,iV 0,iV 0]) gD ?_;refine zQ ?_;refine jD (row':= #[iV 2,iV ((k:Nat):Int),iV y.b.ep,iV 0,iV 4,iV 0,iV 0,iV 0,iV 0,iV 0]) 0 Bd kQ ?_;intro VL uD;refine zN 4 ?_;by_cases hB:BR.2=0
    ·rcases aiG:eZ d9 P1.2.1 [fG 2 k y.b.ep 0 aI] with _ | aDR
     ·refine zN 5 ?_;refine jC (V:=λb=> .slice (aD b 0) 1 1) (row:= #[iV 2,iV ((k:Nat):Int),iV y.b.ep,iV 0,iV 4,iV 0,iV 0,iV 0,iV 0,iV 0]) (t:=171) uD (wg rfl rfl rfl rfl) rfl rfl (aS (vs:=[(0,.agg #[iV 2,iV ((k:Nat):Int),iV y.b.ep,iV 0,iV 4,iV 0,iV 0,iV 0,iV 0,iV 0])]) rfl xU kQ) ?_;intro b70 w71 Bb;have tY:=Bb.eG [12];refine xY eQ (Nu (rs:=[fG 2 k y.b.ep 0 aI]) aiG (Ro.blk (List.mem_iff_getElem?.2 ⟨0,rfl⟩) rfl rfl) Sd (by exact memT 14 rfl λf hf=>List.mem_append_right _ hf) (Nat.le_of_ble_eq_true rfl) tY) ?_;rintro _ w78 ⟨rfl,Ci⟩;refine ⟨_,rfl,?_⟩;refine zN 13 ?_;have Cm:=Ci.aP [14,13,5,4,3,2,1,0];have tV:=(Cm).Rv.Rv;have hr1:((bC X.data X.syn) k).role=1:=by rw [<-hyV];omega
      have qV:m.start n=m:=Uh hX ‹_› (by rw [hP1,Sq,nu hk4];exact ahw hr1 (by rw [<-hyV];exact aiG));rw [qV];exact ⟨rfl,Wd.dL (X':=X) (z':=z) (Ls:=[]) (fA:=R.fA) (fc:=R.fc) (fx:=R.fx) (sA:=R.sA) (sc:=R.sc) (tA:=R.tA) (tc:=R.tc) hkn bU hrr G hn tV NG.more (λu hu=> .inl hu) (aF hX).symm G.fly.symm mI⟩
     refine zN 5 ?_;refine jC (V:=λb=> .slice (aD b 0) 1 1) (row:= #[iV 2,iV ((k:Nat):Int),iV y.b.ep,iV 0,iV 4,iV 0,iV 0,iV 0,iV 0,iV 0]) (t:=171) uD (wg rfl rfl rfl rfl) rfl rfl (aS (vs:=[(0,.agg #[iV 2,iV ((k:Nat):Int),iV y.b.ep,iV 0,iV 4,iV 0,iV 0,iV 0,iV 0,iV 0])]) rfl xU kQ) ?_;intro b82 w83 FZ;have JW:=FZ.eG [12];refine xY eQ (Nv (rs:=[fG 2 k y.b.ep 0 aI]) aiG (Ro.blk (List.mem_iff_getElem?.2 ⟨0,rfl⟩) rfl rfl) Sd (by exact memT 14 rfl λf hf=>List.mem_append_right _ hf) (Nat.le_of_ble_eq_true rfl) JW) ?_;rintro _ w90 ⟨A86,c87,N88,rfl,axB,M0⟩;refine ⟨_,rfl,?_⟩;refine zN 11 ?_;refine vv (jf k) ?_;refine lN (xs':=(ws.set k (⟨BR.1,M7,c48⟩:BX)).flatMap BX.cells) 13 M0 (wn rfl) rfl rfl rfl rfl rfl rfl xD rfl (bM rfl) (by omega) (by rw [Nat.zero_add];exact qA (enc:=BX.cells) (sz:=6) (λ_=>rfl) (⟨BR.1,M7,c48⟩:BX) _ _ (by omega)) ?_;intro w92 DZ;have aLo:(ws.set k (⟨BR.1,M7,c48⟩:BX))[k]? =some (⟨BR.1,M7,c48⟩:BX):=List.getElem?_set_self oQ;refine zN 4 ?_;refine vv (v:=iV ((k+1:Nat):Int)) fJ ?_;refine zN 2 ?_;have Lu:=DZ.aP [5,3,2,1];have D5:St B w0 w92 (_::_::_::_::_::_::_::_::_::_::((((rr++fB bs)++N9)++N88)++[.bJ 6 M7 BR.1.evs.length ((BR.1.evs).flatMap Ev.cells)])):=Lu.toEnd 1 rfl;have Au:=D5.eG [7,7,7,7,7,7,7];have D8:=Au;have hr1:((bC X.data X.syn) k).role=1:=by rw [<-hyV];omega
     have hap:((((rr++fB bs)++N9)++N88)++[.bJ 6 M7 BR.1.evs.length ((BR.1.evs).flatMap Ev.cells)])=((rr++fB bs)++(N9++(N88++[.bJ 6 M7 BR.1.evs.length ((BR.1.evs).flatMap Ev.cells)]))):=by simp only [List.append_assoc]
     rw [hap] at D8;refine aM (k+1,A86,c87,aDR,ws.set k (⟨BR.1,M7,c48⟩:BX),N9++(N88++[.bJ 6 M7 BR.1.evs.length ((BR.1.evs).flatMap Ev.cells)])) ?_ Ho (by first | omega | (dsimp only;omega));exact ⟨uQ,(by dsimp only;rw [Sq,nu hk4];exact adv hr1 (by rw [<-hyV,qp];exact hB) (by rw [<-hyV];exact aiG)),(by dsimp only;rw [List.map_set,Xn];exact adt hk4 hr1 (by rw [<-hyV,qp])),(EK (λu hu=>(aiF u hu).mono (λf hf=>(List.mem_append.1 hf).elim (λh=>List.mem_append_left _ h) λh=>List.mem_append_right _ (List.mem_append_left _ h))) ⟨Ro.bJ (List.mem_append_right _ (List.mem_append_right _ (List.mem_append_right _ (List.mem_singleton.2 rfl)))),axA⟩),(axB.mono (λf hf=>(List.mem_append.1 hf).elim (λh=>List.mem_append_left _ h) λh=>List.mem_append_right _ (List.mem_append_left _ h))),D8⟩
    refine zN 20 ?_;have S99:=uD.aP [13,12,11,3,2,1,0];have sI:=(S99).Rv.Rv;have hr1:((bC X.data X.syn) k).role=1:=by rw [<-hyV];omega
    have qV:m.start n=m:=Uh hX ‹_› (by rw [hP1,Sq,nu hk4];exact ahv hr1 (by rw [<-hyV,qp];exact hB));rw [qV];exact ⟨rfl,Wd.dL (X':=X) (z':=z) (Ls:=[]) (fA:=R.fA) (fc:=R.fc) (fx:=R.fx) (sA:=R.sA) (sc:=R.sc) (tA:=R.tA) (tc:=R.tc) hkn bU hrr G hn sI NG.more (λu hu=> .inl hu) (aF hX).symm G.fly.symm mI⟩
   refine zN 9 ?_;refine vv (v:=iV ((k+1:Nat):Int)) fJ ?_;refine zN 2 ?_;have wT:=nX.aP [0];have tu:=wT;have hro: ¬ ((bC X.data X.syn) k).role=1:=by rw [<-hyV];assumption
   refine aM (k+1,A9,c9,d9,ws,N9) ?_ Ho (by first | omega | (dsimp only;omega));exact ⟨uQ,(by dsimp only;rw [Sq,nu hk4];exact adu hro),(by dsimp only;rw [Xn];exact ads hro),aiF,Sd,tu⟩
  refine zN 15 ?_;refine jD (row':=dI n true (.slice z.tA X.data.length z.tc) X.syn (.slice (aD z.bb 0) 4 4) X.hints X.sure (.slice z.iA z.ix.length z.ic) (z.pv) X.turn) 0 qo kQ ?_;intro au0 wS;refine zN 5 ?_;refine dF eQ (nG wS hu) ?_;rintro _ abG ⟨rfl,axC,zn⟩;refine ⟨_,rfl,?_⟩;have vG:=zn.aP [3,2,1];refine zN 6 ?_;refine vv (aj rfl rfl (cZ (cs:=[.slice A9 d9.length c9,iV P1.2.1]) (St.rg 5 vG rfl (sw)))) ?_;have hwA:eB P1.2.1 (bC X.data X.syn) [0,1,2,3] P1.1=some d9:=by rw [Sq,List.drop_eq_nil_of_le (by rw [List.length_range];omega)];rfl
  have Gj:=λw h=>BM (oJ A9 d9.length c9 d9 P1.2.1 w h);rw [yN (hmay _ hwA)] at Gj;refine dF eQ (Gj _ (Sd.rd vG (memT 8 rfl λf hf=>List.mem_append_right _ hf))) ?_;rintro _ abI ⟨OU,Sl,rfl,aDS⟩;refine ⟨_,rfl,?_⟩;have wR:=vG.ext aDS rfl;refine zN 5 ?_;refine jD (row':=dI n true (.slice OU d9.length Sl) ((d9.length:Nat):Int) (.slice (aD axC 0) 4 4) (λ_=>nowhere) (λ_=>false) (.slice none 0 0) (.nilFunc) X.turn) 1 wR kQ ?_;intro ah6 qc;refine zN 8 ?_;refine jD (row':=dI n true (.slice OU d9.length Sl) ((d9.length:Nat):Int) (.slice (aD bB 0) 4 4) (λ_=>nowhere) (λ_=>false) (.slice none 0 0) (.nilFunc) X.turn) 1 qc kQ ?_;intro auF AX;refine zN 10 ?_;have hwA:eB P1.2.1 (bC X.data X.syn) [0,1,2,3] P1.1=some d9:=by rw [Sq,List.drop_eq_nil_of_le (by rw [List.length_range];omega)];rfl
  have aDT:k=4:=oQ;have hsp:=Xn;rw [aDT] at hsp;have wP:=AX.aP [6];have oZ:=wP.C9 140 23;have oV:=(((((((((oZ.bring 7 rfl).bring 2 rfl).bring 7 rfl).bring 7 rfl).bring 7 rfl).bring 7 rfl).bring 6 rfl).bring 8 rfl).bring 8 rfl);rw [show ((rr++fB bs)++N9)=(rr++(fB bs++N9)) from List.append_assoc ..] at oV;obtain ⟨m1,hm1⟩: ∃ k,k=m.put n { X.blank with up:=true,data:=d9,syn:=((d9.length:Nat):Int),bs:=(bC X.data X.syn) }:=⟨_,rfl⟩;have HW1:Wd K B w0 auF ((.own 57 6 (.slice (aD wB 0) 4 c18) 4 ((ws).flatMap BX.cells))::fs) m1 (hwl ws++H):=by
   rw [hm1];refine Wd.fin (m:=m) (fs:=(.own 57 6 (.slice (aD wB 0) 4 c18) 4 ((ws).flatMap BX.cells))::fs) (X':={ X.blank with up:=true,data:=d9,syn:=((d9.length:Nat):Int),bs:=(bC X.data X.syn) }) (z':={ bb:=bB,tA:=OU,tc:=Sl,bx:=bs,iA:=none,ic:=0,ix:=[],pv:= .nilFunc }) (N:=fB bs++N9) (Ls:=[.bJ 1 OU d9.length (byteCells d9)]) (rr:=(.own 57 6 (.slice (aD wB 0) 4 c18) 4 ((ws).flatMap BX.cells))::rr) (H:=H) (fA:=R.fA) (fc:=R.fc) (fx:=R.fx) (sA:=R.sA) (sc:=R.sc) (tA:=R.tA) (tc:=R.tc) hkn bU (by rw [<-hrr];rfl) G hn oV ⟨hbm,λu hu=>(PE hbc u hu).mono (λf hf=>aDM hf),Ro.bJ (sD (List.mem_singleton.2 rfl)),rfl,λu hu=>by simp at hu,rfl⟩ (λu hu=> .inl hu) rfl G.fly.symm ?_;exact alT λy hy=>(aiF y hy).mono λf hf=>aDN hf
  have hwo:=adw hwA;have avu:m1.ah n={ X.blank with up:=true,data:=d9,syn:=((d9.length:Nat):Int),bs:=(bC X.data X.syn) }:=by rw [hm1];exact dw _
  refine dN (X:=Nat×Cl) (λxv=>[(0,pV kw 0),(1,pV kn 0),(85,.slice (aD wB 0) 4 c18),(86,iV 4),(87,iV ((xv.1:Nat):Int))]) (λxv wr=>(Wd K B w0 wr ((.own 57 6 (.slice (aD wB 0) 4 c18) 4 ((ws).flatMap BX.cells))::fs) xv.2 (hwl ws++H))/\(Cl.woken n (bC X.data X.syn) [0,1,2,3] m1=Cl.woken n (bC X.data X.syn) ((List.range 4).drop xv.1) xv.2)/\(xv.1<=4)/\(xv.2.fly=m.fly)/\(∀ j,j<4->au ((xv.2.ah n).bs j)=0)/\(∀ j,xv.1<=j->j<4->(xv.2.ah n).bs j=(bC X.data X.syn) j)/\(∀ a b,0<=(xv.2.shown a b).2)/\(xv.2.aQ.length<=m.aQ.length+2001*xv.1)/\St B w0 wr [.own 57 6 (.slice (aD wB 0) 4 c18) 4 ((ws).flatMap BX.cells)]) (λxv=>4-xv.1) (0,m1) ?_ ?_ ?_
  ·exact ⟨HW1,rfl,Nat.zero_le _,by rw [hm1];rfl,λj hj=>by dsimp only;rw [avu];exact hvv j hj,λj _ _=>by dsimp only;rw [avu],λa b=>by dsimp only;rw [hm1];exact hsh a b,by dsimp only;rw [hm1];exact Nat.le_refl _,Wd.Iu (gs:=[.own 57 6 (.slice (aD wB 0) 4 c18) 4 ((ws).flatMap BX.cells)]) HW1⟩
  ·exact vJ
  rintro ⟨k2,mm⟩ abO ⟨aeb,Xo,axD,Xp,MU,Xq,Xr,axE,Dv⟩
  try dsimp only at aeb Xo axD Xp MU Xq Xr axE Dv
  refine aZ (l':=[(0,pV kw 0),(1,pV kn 0),(85,.slice (aD wB 0) 4 c18),(86,iV 4),(87,iV ((k2:Nat):Int))]) vJ ?_;obtain ⟨R3,G3,Ws⟩:=aeb.open hn;have Ui:=G3.kr n hn;obtain ⟨X3,CQ⟩: ∃ X,mm.ah n=X:=⟨_,rfl⟩;obtain ⟨z3,hz3⟩: ∃ z,R3.nx n=z:=⟨_,rfl⟩;rw [CQ,hz3] at Ws Ui;obtain ⟨rr3,JC⟩: ∃ r,gy K R3 mm fs n=r:=⟨_,rfl⟩;have aLp:R3.fx.length=mm.fly.length:=by rw [<-G3.fly,List.length_map]
  have zo:St B w0 abO (cN kn n X3 z3 z3.pv (cF kw R3 mm ((.own 57 6 (.slice (aD wB 0) 4 c18) 4 ((ws).flatMap BX.cells))::rr3))):=by rw [<-JC];subst hkn;subst bU;exact Ws
  clear Ws;have hlen3:=(zo.own 1 rfl).1;rw [gL (sz:=6) (λ_=>rfl)] at hlen3;rw [CQ] at MU Xq;refine zN 2 ?_;by_cases aDU:((k2:Nat):Int)<4
  ·refine zN 10 ?_;have hk4:k2<4:=oQ;obtain ⟨x,hx,hxs⟩:=Wq hsp hk4;refine zN 2 ?_;refine vv (jf k2) ?_;refine vv (aj rfl rfl (cZ (cs:=BX.cells x) (Rd.uq (St.ord 7 zo rfl) (λ_ _ h=>aW (enc:=BX.cells) (sz:=6) (λ_=>rfl) hx h)))) ?_;refine gq zo fP ?_;intro apf an6 GR;refine zQ ?_;refine sa 0 GR kQ ?_;intro abo E9;refine zN 7 ?_;by_cases aLq:x.b.role=1
   ·refine zN 11 ?_;have Du:=E9.eG [7,7,7,7,7,7,7];have axF:=Wd.dL (m:=mm) (m':=mm) (H:=hwl ws++H) (H':=hwl ws++H) (fs:=(.blk apf (bR x.b x.A x.c) 57)::(.own 57 6 (.slice (aD wB 0) 4 c18) 4 ((ws).flatMap BX.cells))::fs) (X':=X3) (z':=z3) (Ls:=[]) (fA:=R3.fA) (fc:=R3.fc) (fx:=R3.fx) (sA:=R3.sA) (sc:=R3.sc) (tA:=R3.tA) (tc:=R3.tc) (rr:=(.blk apf (bR x.b x.A x.c) 57)::(.own 57 6 (.slice (aD wB 0) 4 c18) 4 ((ws).flatMap BX.cells))::rr3) hkn bU (by rw [<-JC];rfl) G3 hn Du Ui.more (λu hu=> .inl hu) (aF CQ).symm G3.fly.symm mI;refine dF eQ (J4 hn hkn bU hu (by rw [Xp];exact hB1) oQ hk4 axF (by rw [CQ];exact MU) (Xr n k2)) ?_;rintro _ aDV ⟨rfl,anv⟩;refine ⟨_,rfl,?_⟩;have NU:=Gq mm n k2 (Xr);have hrs:=(Gl (n:=n) (q:=k2) mm (by rw [CQ];exact jZ (jv (MU k2 hk4)))).2;obtain ⟨mc,hmc⟩: ∃ k,k=mm.recover n k2:=⟨_,rfl⟩;rw [<-hmc] at anv NU hrs;obtain ⟨R5,G5,S05⟩:=anv.open hn;have NG5:=G5.kr n hn;obtain ⟨X5,hX5⟩: ∃ X,mc.ah n=X:=⟨_,rfl⟩;obtain ⟨z5,hz5⟩: ∃ z,R5.nx n=z:=⟨_,rfl⟩;rw [hX5,hz5] at S05 NG5;obtain ⟨rr5,avv⟩: ∃ r,gy K R5 mc fs n=r:=⟨_,rfl⟩;have aLr:R5.fx.length=mc.fly.length:=by rw [<-G5.fly,List.length_map]
    have WI:St B w0 aDV (cN kn n X5 z5 z5.pv (cF kw R5 mc ((.blk apf (bR x.b x.A x.c) 57)::(.own 57 6 (.slice (aD wB 0) 4 c18) 4 ((ws).flatMap BX.cells))::rr5))):=by rw [<-avv];subst hkn;subst bU;exact S05
    clear S05;have axG:=(WI.own 1 rfl).1;rw [gL (sz:=6) (λ_=>rfl)] at axG;obtain ⟨y5,hy5,aLs,aLt⟩:=NG5.at_ hk4;refine zN 3 ?_;have Fp:=WI.drew;refine fC 8 6 Fp [] ?_;iterate 6 refine gU ?_
    refine eU kQ rfl rfl rfl ?_;refine vv (jf k2) ?_;refine lN (xs':=(z5.bx.set k2 (⟨x.b,x.A,x.c⟩:BX)).flatMap BX.cells) 1 Fp (wn rfl) rfl rfl rfl rfl rfl rfl xD rfl (bM rfl) (by omega) (by rw [Nat.zero_add];exact qA (enc:=BX.cells) (sz:=6) (λ_=>rfl) (⟨x.b,x.A,x.c⟩:BX) _ _ (by omega)) ?_;intro aDa Jb;have hy153:(z5.bx.set k2 (⟨x.b,x.A,x.c⟩:BX))[k2]? =some (⟨x.b,x.A,x.c⟩:BX):=List.getElem?_set_self oQ;refine zQ ?_;refine iY ?_;refine zN 5 ?_;refine vv (v:= .agg #[iV 4,iV 0,iV 0,iV 0,iV 0,iV 0]) gD ?_;refine zQ ?_;refine dF eQ (nE hn hk4 hy153 aI eD (-1) Jb oQ) ?_;rintro _ aDW ⟨rfl,aDX,aDY,aGG,axH,aDZ⟩;refine ⟨_,rfl,?_⟩;subst axH;have Jc:=aDZ.aP [7];have hr1:((bC X.data X.syn) k2).role=1:=ahy hxs oQ;have hxb:x.b=iE ((bC X.data X.syn) k2):=by rw [hxs,if_pos ⟨hk4,hr1⟩,(hwo k2 hk4 hr1).2]
    obtain ⟨md,hmd⟩: ∃ k,k=(mc.aK n k2 x.b).tell n k2 aI eD (-1):=⟨_,rfl⟩;have aD0:md=((mm.recover n k2).aK n k2 (dV ((bC X.data X.syn) k2)).1).tell n k2 aI eD (-1):=by rw [hmd,hmc,hxb,(hwo k2 hk4 hr1).2]
    have adz:md={ mc.put n (X5.aK k2 x.b) with aQ:=mc.aQ++[⟨n,k2,x.b.ep,aI,eD,-1⟩],shown:=iy mc.shown n k2 (x.b.ep,(x.b.evs.length:Int)) }:=by rw [hmd];exact adx hX5
    have aD1:md.fly=mm.fly:=by rw [adz];exact NU.2.1
    have hnm:(mc.ah n)=X3:=by rw [NU.1,CQ]
    have avw:X5=X3:=by rw [<-hX5];exact hnm
    have avx:md.ah n=X5.aK k2 x.b:=by rw [adz];exact dw _
    have aD2: ∀ j,j<4->au ((md.ah n).bs j)=0:=λj hj=>by rw [avx];exact alS (by rw [avw];exact MU) (by rw [hxb];exact (hwo k2 hk4 hr1).1) j hj
    have aD3: ∀ j,k2+1<=j->j<4->(md.ah n).bs j=(bC X.data X.syn) j:=λj h1 h2=>by rw [avx,avw];exact (upd_ne oQ).trans (Xq j oQ h2)
    have aD4: ∀ a b,0<=(md.shown a b).2:=by rw [adz];exact JB (a:=n) (q:=k2) (e:=x.b.ep) (l:=x.b.evs) NU.2.2
    have aLu:md.aQ.length=mc.aQ.length+1:=by rw [adz];exact List.length_append ..
    clear hmd;have anw:Wd K B w0 aDW ((.own 57 6 (.slice (aD wB 0) 4 c18) 4 ((ws).flatMap BX.cells))::fs) md (hwl ws++H):=by
     rw [adz];exact Wd.dL (m:=mc) (H:=hwl ws++H) (fs:=(.own 57 6 (.slice (aD wB 0) 4 c18) 4 ((ws).flatMap BX.cells))::fs) (X':=X5.aK k2 x.b) (z':={ z5 with bx:=z5.bx.set k2 (⟨x.b,x.A,x.c⟩:BX) }) (Ls:=[]) (fA:=R5.fA) (fc:=R5.fc) (fx:=R5.fx) (sA:=aDX) (sc:=aDY) (tA:=R5.tA) (tc:=R5.tc) (rr:=(.own 57 6 (.slice (aD wB 0) 4 c18) 4 ((ws).flatMap BX.cells))::rr5) hkn bU (by rw [<-avv];rfl) G5 hn Jc (dW.ang (Y:=x) NG5.more hk4 (asu G5.hld hx).more) (λu hu=> .inl hu) rfl G5.fly.symm mI
    refine zN 4 ?_;refine vv (v:=iV ((k2+1:Nat):Int)) fJ ?_;refine zN 2 ?_;refine aM (k2+1,md) ?_ vJ (by first | omega | (dsimp only;omega));exact ⟨anw,(by dsimp only;rw [Xo,nu hk4];exact YS hr1 aD0),uQ,(by dsimp only;rw [aD1];exact Xp),(by dsimp only;exact aD2),(by dsimp only;exact aD3),(by dsimp only;exact aD4),uQ,(Wd.Iu (gs:=[.own 57 6 (.slice (aD wB 0) 4 c18) 4 ((ws).flatMap BX.cells)]) anw)⟩
   refine zN 9 ?_;refine vv (v:=iV ((k2+1:Nat):Int)) fJ ?_;refine zN 2 ?_;have Jd:=E9.aP [0];have Xt:=Wd.dL (m:=mm) (m':=mm) (H:=hwl ws++H) (H':=hwl ws++H) (fs:=(.own 57 6 (.slice (aD wB 0) 4 c18) 4 ((ws).flatMap BX.cells))::fs) (X':=X3) (z':=z3) (Ls:=[]) (fA:=R3.fA) (fc:=R3.fc) (fx:=R3.fx) (sA:=R3.sA) (sc:=R3.sc) (tA:=R3.tA) (tc:=R3.tc) (rr:=(.own 57 6 (.slice (aD wB 0) 4 c18) 4 ((ws).flatMap BX.cells))::rr3) hkn bU (by rw [<-JC];rfl) G3 hn Jd Ui.more (λu hu=> .inl hu) (aF CQ).symm G3.fly.symm mI;have hro: ¬ ((bC X.data X.syn) k2).role=1:=ahx (hwo k2 hk4) hxs ‹_›;refine aM (k2+1,mm) ?_ vJ (by first | omega | (dsimp only;omega));exact ⟨Xt,(by dsimp only;rw [Xo,nu hk4];exact YR hro),uQ,Xp,(by dsimp only;rw [CQ];exact MU),(by dsimp only;rw [CQ];exact λj h1 h2=>Xq j oQ h2),Xr,uQ,(Wd.Iu (gs:=[.own 57 6 (.slice (aD wB 0) 4 c18) 4 ((ws).flatMap BX.cells)]) Xt)⟩
  refine zN 10 ?_;have qV:m.start n=mm:=by rw [ady hX ‹_› (by rw [hP1];exact hwA),<-hm1,Xo,List.drop_eq_nil_of_le (by rw [List.length_range];omega)];rfl
  rw [qV];exact ⟨rfl,ahA (Wd.less (gs:=[.own 57 6 (.slice (aD wB 0) 4 c18) 4 ((ws).flatMap BX.cells)]) aeb)⟩
 refine aZ (l':=[(0,pV kw 0),(1,pV kn 0),(18,.bool true)]) FJ (lY rfl (nW (ig (dS (rs:=[]) (vs:=[]) rfl trivial ?_))));have qV:m.start n=m:=ahz (by rw [hX];assumption);rw [qV];exact ⟨rfl,Wd.dL (X':=X) (z':=z) (Ls:=[]) (fA:=R.fA) (fc:=R.fc) (fx:=R.fx) (sA:=R.sA) (sc:=R.sc) (tA:=R.tA) (tc:=R.tc) hkn bU hrr G hn S NG.more (λu hu=> .inl hu) (aF hX).symm G.fly.symm mI⟩
section
variable {X:Nd} {m:Cl} {n k q:Nat} {p:dB}
theorem G8.mP (h:G8 X): ∀ q,q<4->au (X.bs q)=0:=by
 rcases h with ⟨_,rs,us,h⟩ | ⟨_,rs,t,f,h⟩
 ·exact h.mP
 exact h.bz
theorem G8.tp (h:G8 X): ∃ rs t f,X.data=bG rs++t/\(firstM t).2=0/\iJ rs f/\(∀ q,q<4->au (f q)=0)/\X.data.length<=100000/\0<=X.syn/\X.syn<=X.data.length:=by
 rcases h with ⟨_,rs,us,h⟩ | ⟨_,rs,t,f,h⟩
 ·have hd:=h.data;have hl:=congrArg List.length hd;rw [lJ,List.length_append] at hl;have hs:=h.syn
  cases hp:X.pend with
  | none=>
   have hu:=h.ZY hp;refine ⟨rs,[],_,by rw [hd,hu,List.append_nil,List.append_nil],yw,h.tape,λq hq=>(V5 h.mP hq).1,h.len,by omega,by omega⟩
  | some p=>
   obtain ⟨h1,h2,h3⟩:=h.O4 p hp;obtain ⟨h4,h5⟩:=kT h.tape h.mP h2 h3;rw [<-h1] at h4;refine ⟨rs++us,[],_,by rw [hd,List.append_nil],yw,h4,λq hq=>?_,h.len,by omega,by omega⟩;refine uL ?_;by_cases e:q=p.q
   ·rw [e,upd_same];exact h5
   rw [upd_ne e];exact h.mP q hq
 exact ⟨rs,t,f,h.data,h.auO,h.tape,λq hq=>(h.mP q hq).1,h.len,h.syn.1,h.syn.2⟩
theorem G8.may (h:G8 X):cB X.data X.syn=true:=by
 obtain ⟨rs,t,f,_,_,_,_,h1,h2,h3⟩:=h.tp;simp only [cB,Bool.and_eq_true,decide_eq_true_eq];exact ⟨⟨h1,h2⟩,h3⟩
theorem G8.aD5 (h:G8 X) {rs:List dD} {d:List UInt8} (hw:eZ X.data X.syn rs=some d):cB d X.syn=true:=by
 obtain ⟨_,_,_,_,_,_,_,h1,h2,h3⟩:=h.tp;obtain ⟨w1,_,w3⟩:=qm hw;have:=w3 h1;have hl:=congrArg List.length w1;rw [List.length_append] at hl;simp only [cB,Bool.and_eq_true,decide_eq_true_eq];omega
theorem G8.fit (h:G8 X) (hp:X.pend=some p):p.fit/\cB X.data X.syn=true:=by
 refine ⟨?_,h.may⟩
 rcases h with ⟨_,rs,us,h⟩ | ⟨_,rs,t,f,h⟩
 ·obtain ⟨h1,h2,h3⟩:=h.O4 p hp;obtain ⟨h4,h5⟩:=kT h.tape h.mP h2 h3
  cases p with
  | serve q evs op num a=>exact ⟨h3,jZ h2.2.2.2⟩
  | begun q b=>exact h3
  | got q b last=>exact h3
  | gI q b at_=>exact ⟨h3,h5⟩
  | forget q b=>exact h3
 rw [h.nL] at hp;cases hp
theorem Qs {s:Int} {f:Nat->bn}: ∀ (ql:List Nat) {d d':List UInt8},eB s f ql d=some d'->d.length<=d'.length/\(d.length<=100000->d'.length<=100000)
 | [],d,d',h=>by cases h;exact ⟨Nat.le_refl _,id⟩
 | q::r,d,d',h=>by
  rw [eB] at h
  split at h
  ·exact Qs r h
  split at h
  ·cases h
  split at h
  ·cases h
  rename_i d2 hw
  obtain ⟨w1,_,w3⟩:=qm hw;obtain ⟨h1,h2⟩:=Qs r h;rw [w1,List.length_append] at h1;exact ⟨by omega,λh0=>h2 (w3 h0)⟩
theorem aar: ∀ (rs:List dD),6*rs.length<=(bG rs).length
 | []=>by simp [bG]
 | r::rs=>by
  have h1:=(Bj r).1;have h2:=aar rs;have e:bG (r::rs)=l9 r++bG rs:=by simp [bG,List.flatMap_cons]
  rw [e,List.length_append,List.length_cons];omega
theorem G8.RN (h:G8 X):DC X.data X.syn=some (vB (bC X.data X.syn))/\(∀ q,q<4->au (bC X.data X.syn q)=0)/\(uI (jr X.data X.syn).1 (jr X.data X.syn).2.1).1.length*80<=reachBytes/\
  (∀ d,eB (jr X.data X.syn).2.1 (bC X.data X.syn) [0,1,2,3] (jr X.data X.syn).1=some d->cB d (jr X.data X.syn).2.1=true):=by
 obtain ⟨rs,t,f,hd,ht,hT,hb,h1,h2,h3⟩:=h.tp;obtain ⟨r1,r2,r3⟩:=hT.read hd ht h1 h2 h3;have hl:(bG rs).length<=X.data.length:=by rw [hd,List.length_append];omega
 have hg:=aar rs;refine ⟨by rw [r2,Bl λq hq=>(r3 q hq).symm],λq hq=>by rw [r3 q hq];exact hb q hq,?_,λd hw=>?_⟩
 ·rw [r1];unfold uI;rw [if_pos (by simp [cB];omega)];have:=zq (t:=[]) hT.1 yw;rw [List.append_nil] at this;dsimp only;rw [this];unfold reachBytes;dsimp only;omega
 rw [r1] at hw⊢;obtain ⟨g1,g2⟩:=Qs _ hw;dsimp only at g1 g2 hw⊢;have g3:=g2 oQ;simp only [cB,Bool.and_eq_true,decide_eq_true_eq];omega
theorem ko.tgt {l:dK} (h:ko l): ∃ j,j<5/\(l.tg= -1\/l.tg= -2\/l.tg=((j:Nat):Int)):=by
 obtain ⟨_,_,h1 | h1 | h1,_⟩:=h
 ·exact ⟨0,by omega,.inl h1⟩
 ·exact ⟨0,by omega,.inr (.inl h1.1)⟩
 exact ⟨l.tg.toNat,by omega,.inr (.inr oQ)⟩
theorem dM.fl {T S D K:Nat} (h:dM m T S D K):m.fly.length<=T:=by
 have:=Pf m (n:=0) oQ;have:=h.room;omega
theorem dM.il {T S D K:Nat} (h:dM m T S D K) (hn:n<5):(m.ah n).inbox.length<=T:=by
 have:=Pf m hn;have:=h.room;omega
theorem dM.fi {T S D K:Nat} (h:dM m T S D K) (hn:n<5):m.fly.length+(m.ah n).inbox.length<=T:=by
 have:=Pf m hn;have:=h.room;omega
end
def ShN (m:Cl):Prop:= ∀ a b,0<=(m.shown a b).2
section
variable {m m':Cl} {n q:Nat} {l:dK}
theorem ShN.of (h:ShN m) (e:m'.shown=m.shown):ShN m':=λa b=>by rw [e];exact h a b
theorem ShN.tell {e:Ev} {a:iM} {u:Int} (h:ShN m):ShN (m.tell n q e a u):=JB h
theorem ShN.done {op:Ev} {u:Int} {a:iM} (h:ShN m):ShN (m.done n q op u a):=by
 unfold Cl.done
 split
 ·exact (h.tell (n:=n) (q:=q) (e:=op) (a:=a) (u:=u)).of rfl
 exact h.of rfl
theorem ShN.part {a:Int} (h:ShN m):ShN (m.part n q a):=by
 unfold Cl.part
 split
 ·exact h
 exact h.of rfl
theorem ShN.serve (h:ShN m):ShN (m.serve n l):=by
 unfold Cl.serve
 split
 ·exact h.done
 split
 ·exact h.done
 exact h.of rfl
theorem ShN.handle (h:ShN m):ShN (m.handle n l):=by
 unfold Cl.handle
 split
 ·exact h.serve
 split
 ·unfold Cl.offered
  split
  ·exact h
  split
  ·exact h.of rfl
  split
  ·exact h
  exact h.of rfl
 split
 ·unfold Cl.caught
  split
  ·exact h
  split
  ·exact h
  split
  ·exact ShN.part (h.of rfl)
  split
  ·exact h
  exact h.of rfl
 split
 ·unfold Cl.got
  split
  ·exact h
  split
  ·exact h.of rfl
  split
  ·exact h
  split
  ·exact h
  exact h.of rfl
 unfold Cl.learnt
 split
 ·exact h.of rfl
 split
 ·exact h.of rfl
 exact h.of rfl
theorem ShN.drain: ∀ (ls:List dK) {m:Cl},ShN m->ShN (Cl.drain n ls m)
 | [],m,h=>h
 | l::r,m,h=>by
  rw [Cl.drain];have h1:ShN ((m.put n { m.ah n with inbox:=r }).handle n l):=ShN.handle (h.of rfl)
  split
  ·exact ShN.drain r h1
  exact h1
theorem ShN.yA {p:dB} (h:ShN m):ShN (m.yA n p):=by
 cases p with
 | serve q evs op num a=>exact ShN.done (h.of rfl)
 | begun q b=>exact h.of rfl
 | got q b last=>
  unfold Cl.yA;dsimp only
  split
  ·exact ShN.tell (h.of rfl)
  exact h.of rfl
 | gI q b a=>exact ShN.part (h.of rfl)
 | forget q b=>exact h.of rfl
theorem ShN.step (h:ShN m):ShN (m.step n):=by
 unfold Cl.step
 split
 ·exact h
 split
 ·exact ShN.yA (h.of rfl)
 split
 ·exact (h.drain _).of rfl
 exact h.drain _
theorem ShN.come (h:ShN m):ShN (m.come l):=by
 unfold Cl.come
 split
 ·exact h.of rfl
 split
 ·split<;>exact h.of rfl
 split
 ·exact h.of rfl
 exact h
theorem ShN.comes: ∀ (ls:List dK) {m:Cl},ShN m->ShN (ls.foldl Cl.come m)
 | [],_,h=>h
 | _::ls,_,h=>ShN.comes ls h.come
theorem ShN.recover (h:ShN m):ShN (m.recover n q):=(Gq m n q h).2.2
theorem ShN.woken {bs:Nat->bn}: ∀ (ql:List Nat) {m:Cl},ShN m->ShN (Cl.woken n bs ql m)
 | [],_,h=>h
 | q::r,m,h=>by
  rw [Cl.woken]
  split
  ·exact ShN.woken r h
  exact ShN.woken r (ShN.tell ((h.recover (n:=n) (q:=q)).of rfl))
theorem ShN.act {a:Ac} (h:ShN m):ShN (m.act a):=by
 unfold Cl.act
 split
 ·unfold Cl.make
  split
  ·exact h
  split
  ·exact h
  split
  ·exact h
  exact JB (l:=[]) h
 split
 ·exact h.of rfl
 split
 ·exact h.step
 split
 ·unfold Cl.pick
  split
  ·exact h
  dsimp only
  split
  ·refine ShN.come ?_
   split
   ·exact h
   exact h.of rfl
  split
  ·exact h
  exact h.of rfl
 split
 ·exact ShN.comes _ (h.of rfl)
 split
 ·unfold Cl.crash
  split
  ·exact h.of rfl
  exact h
 split
 ·unfold Cl.start
  split
  ·exact h
  split
  ·exact h
  exact ShN.woken _ (h.of rfl)
 unfold Cl.move
 split
 ·exact h
 split
 ·exact h.of rfl
 exact h
end
section
variable {m mm:Cl} {n q k:Nat} {a:Ac} {PW:Pl×Int} {T S D K:Nat} {x:dK} {fl:List dK}
theorem alU (h:aY m.off q=PW): ∃ nn,nn<5/\(PW.2=0->PW.1.node=((nn:Nat):Int)):=by
 subst h;by_cases c:(aY m.off q).2=0
 ·obtain ⟨h1,h2,_⟩:=rJ (λh=>h c);exact ⟨_,h1,λ_=>by omega⟩
 exact ⟨0,by omega,λh=>absurd h c⟩
theorem ahB (h:dM m T S D K):dM { m with fly:=[] } (T+0) S (D+0) K:=by
 refine ⟨h.kr,λl hl=>(by simp at hl),h.lC,?_,h.aQ,h.bH,h.turn,h.calls⟩;have:=h.room;unfold Cl.tot at this⊢;dsimp only [List.length_nil];omega
theorem ahC (h:fl[k]? =some x):(fl.drop k).foldl Cl.come mm=(fl.drop (k+1)).foldl Cl.come (mm.come x):=by rw [drop_cons h,List.foldl_cons]
theorem ahD (h:a.kd=1) (hn:a.nd=((n:Nat):Int)) (hq:a.qu=((q:Nat):Int)):m.act a=m.make n q:=by
 unfold Cl.act;rw [if_pos h,hn,hq,Int.toNat_natCast,Int.toNat_natCast]
theorem ahE (h:a.kd=2) (hq:a.qu=((q:Nat):Int)):m.act a={ m with fly:=m.fly++[F9 a.nd q a.op m.calls],calls:=m.calls+1 }:=by
 unfold Cl.act;rw [if_neg oQ,if_pos h,hq,Int.toNat_natCast]
theorem ahF (h:a.kd=3) (hn:a.nd=((n:Nat):Int)):m.act a=m.step n:=by
 unfold Cl.act;rw [if_neg oQ,if_neg oQ,if_pos h,hn,Int.toNat_natCast]
theorem KN (h:a.kd=4\/a.kd=5\/a.kd=6):m.act a=m.pick a.at_.toNat (decide (a.kd≠5)) (decide (a.kd=6)):=by
 unfold Cl.act;rw [if_neg oQ,if_neg oQ,if_neg oQ,if_pos h]
theorem alV (h:a.kd=4):m.act a=m.pick a.at_.toNat true false:=by rw [KN (.inl h),h];rfl
theorem alW (h:a.kd=5):m.act a=m.pick a.at_.toNat false false:=by rw [KN (.inr (.inl h)),h];rfl
theorem alX (h:a.kd=6):m.act a=m.pick a.at_.toNat true true:=by rw [KN (.inr (.inr h)),h];rfl
theorem alY (h:a.kd=7):m.act a=m.all:=by
 unfold Cl.act;rw [if_neg oQ,if_neg oQ,if_neg oQ,if_neg oQ,if_pos h]
theorem PG (h:a.kd=8) (hn:a.nd=((n:Nat):Int)):m.act a=m.crash n a.kp:=by
 unfold Cl.act;rw [if_neg oQ,if_neg oQ,if_neg oQ,if_neg oQ,if_neg oQ,if_pos h,hn,Int.toNat_natCast]
theorem adA (h:a.kd=9) (hn:a.nd=((n:Nat):Int)):m.act a=m.start n:=by
 unfold Cl.act;rw [if_neg oQ,if_neg oQ,if_neg oQ,if_neg oQ,if_neg oQ,if_neg oQ,if_pos h,hn,Int.toNat_natCast]
theorem adB (h:a.kd≠1) (h2:a.kd≠2) (h3:a.kd≠3) (h4:a.kd≠4) (h5:a.kd≠5) (h6:a.kd≠6) (h7:a.kd≠7) (h8:a.kd≠8) (h9:a.kd≠9) (hq:a.qu=((q:Nat):Int)):m.act a=m.move q a.nd:=by
 unfold Cl.act;rw [if_neg h,if_neg h2,if_neg h3,if_neg oQ,if_neg h7,if_neg h8,if_neg h9,hq,Int.toNat_natCast]
theorem ahG (h:(m.ah n).up=true) {kp:Int}:m.crash n kp=m.put n ((m.ah n).crashed kp):=if_pos h
theorem adC (h:(m.ah n).up=false) {kp:Int}:m.crash n kp=m:=by
 unfold Cl.crash;rw [if_neg (by rw [h];simp)]
end
theorem ahH {K:CK} {B n kn kw:Nat} {w0 w:World} {fs:List Fact} {m:Cl} {H:List LX} {q k:Nat} {a:Ac} (hn:n<5) (hq:q<4) (hnd:a.nd=((n:Nat):Int)) (hqd:a.qu=((q:Nat):Int)) (hkn:K.nb n=kn) (bU:K.wb=kw) (hu:Uk B w0) (HW:Wd K B w0 w fs m H) (qN:dM m (4*k) (500000*k) (500000*k) k) (hk:k<=100000) (ha:zF a) (hsh:ShN m):
    Calls Tryz.prog 23 #[pV kw 0,.agg #[iV a.kd,iV a.nd,iV a.qu,iV a.at_,iV a.kp,iV a.ek,iV a.ep,iV a.ei,iV a.eb,iV a.eh,iV a.en]] w (λe w'=>e= .returned (.tuple #[])/\Wd K B w0 w' fs (m.act a) H):=by
 obtain ⟨R,G,S0⟩:=HW.open hn;have hfl:R.fx.length=m.fly.length:=by rw [<-G.fly,List.length_map]
 have NG:=G.kr n hn;obtain ⟨X,hX⟩: ∃ X,m.ah n=X:=⟨_,rfl⟩;obtain ⟨z,hz⟩: ∃ z,R.nx n=z:=⟨_,rfl⟩;rw [hX,hz] at S0 NG;have hL: ∀ f∈R.L,f∈gy K R m fs n:=λf h=>List.mem_append_right _ (List.mem_append_right _ h);obtain ⟨rr,hrr⟩: ∃ r,gy K R m fs n=r:=⟨_,rfl⟩;rw [hrr] at S0 hL;have S:St B w0 w ((bN kn n X.up z.tA X.data z.tc X.syn z.bb X.hints X.sure z.iA z.ix z.ic z.pv X.turn)::(oB z.bb z.bx)::(fL z.iA z.ix z.ic)::(bW kw (.slice R.nA 5 R.nc) m.off R.fA R.fx R.fc m.shown R.sA m.aQ R.sc R.tA m.bH R.tc m.calls)::(oL R.fA R.fx R.fc)::(oS R.sA m.aQ R.sc)::(oT R.tA m.bH R.tc)::rr):=by subst hkn;subst bU;exact S0
 clear S0 HW;have hlen:=(S.own 1 rfl).1;rw [gL (sz:=6) (λ_=>rfl)] at hlen;obtain ⟨ab,ao,qM⟩:=Cv G.arr S (memT 7 rfl hL);have harr:=G.arr;rw [qM] at S harr;have hcl:=qN.calls;have aLv:=qN.fl;have apg:a.at_=((a.at_.toNat:Nat):Int):=by have:=ha.at_;omega
 refine gu 144 Tryz.func23 ?_;refine cw [0,1] ?_;refine zN 2 ?_;refine iH S ?_;intro b1 w2 S3;refine zN 11 ?_;by_cases h4:a.kd=1
 ·refine zN 5 ?_;have S5:St B w0 w2 [.blk b1 #[iV a.kd,iV a.nd,iV a.qu,iV a.at_,iV a.kp,iV a.ek,iV a.ep,iV a.ei,iV a.eb,iV a.eh,iV a.en] 71]:=S3.sub (List.Sublist.cons_cons _ (List.nil_sublist _));have Wt:=S3.drew;have S6:=S5.drew;refine aN 12 S6 [] ?_;refine aL 5 ?_;refine ak (v:=iV ((n:Nat):Int)) 6 rfl S6 (λ_ ado=>(Cw hnd (aj rfl rfl (aC (St.cl 0 ado rfl rfl))))) ?_;refine cO ?_;refine ak (v:=iV ((q:Nat):Int)) 10 rfl S6 (λ_ anW=>(Cw hqd (aj rfl rfl (aC (St.cl 0 anW rfl rfl))))) ?_;refine aU 4 ?_;refine je (i:=4) rfl rfl (v:= .slice (aD ab ao) 5 R.nc) (wn rfl) rfl rfl (aj rfl rfl (aC (St.cl 4 Wt rfl AV))) ?_;refine cO ?_;refine ak 7 rfl S6 (λ_ _=>jf n) ?_;refine aU 8 ?_;refine je (i:=8) rfl rfl (v:=pV kn 0) (wn rfl) rfl rfl (aj rfl rfl (aC (hkn▸vT harr hn Wt (memT 8 rfl hL)))) ?_;refine cO ?_;refine aU 11 ?_;have lV:=Wt.eG [7,7,7,7,7,7,7];have jc:=lV;rw [<-qM] at jc;have apd:=Wd.dL (m:=m) (m':=m) (H:=H) (H':=H) (fs:=(.blk b1 #[iV a.kd,iV a.nd,iV a.qu,iV a.at_,iV a.kp,iV a.ek,iV a.ep,iV a.ei,iV a.eb,iV a.eh,iV a.en] 71)::fs) (X':=X) (z':=z) (Ls:=[]) (fA:=R.fA) (fc:=R.fc) (fx:=R.fx) (sA:=R.sA) (sc:=R.sc) (tA:=R.tA) (tc:=R.tc) (rr:=(.blk b1 #[iV a.kd,iV a.nd,iV a.qu,iV a.at_,iV a.kp,iV a.ek,iV a.ep,iV a.ei,iV a.eb,iV a.eh,iV a.en] 71)::rr) hkn bU (by rw [<-hrr]<;>rfl) G hn jc NG.more (λu hu=> .inl hu) (aF hX).symm G.fly.symm mI;refine jI 11 rfl eQ (YG hn hkn bU hu (by have:=qN.fl;omega) (by have:=qN.aQ;omega) hq apd (qN.kr n hn).mP (λrs d h=>(qN.kr n hn).aD5 h)) ?_;rintro _ ZF ⟨rfl,avy⟩;refine ⟨_,rfl,?_⟩;have tZ:=Wd.Iu (gs:=[.blk b1 #[iV a.kd,iV a.nd,iV a.qu,iV a.at_,iV a.kp,iV a.ek,iV a.ep,iV a.ei,iV a.eb,iV a.eh,iV a.en] 71]) avy;refine aL 2 ?_;refine bQ (l':=[]) trivial (iC (aV (rs:=[]) (vs:=[]) rfl trivial ?_));rw [ahD ‹_› hnd hqd];exact ⟨rfl,(Wd.less (gs:=[.blk b1 #[iV a.kd,iV a.nd,iV a.qu,iV a.at_,iV a.kp,iV a.ek,iV a.ep,iV a.ei,iV a.eb,iV a.eh,iV a.en] 71]) avy)⟩
 refine zN 7 ?_;by_cases h22:a.kd=2
 ·refine zN 6 ?_;have oh:=S3.eG [5,5];have iP:=oh.drew;refine aN 14 iP [1,0] ?_;refine aL 4 ?_;refine ak (v:=iV ((q:Nat):Int)) 4 rfl (iP.pX [1,0]) (λ_ acI=>(Cw hqd (aj rfl rfl (aC (St.cl 0 acI rfl rfl))))) ?_;refine cO ?_;refine ak (v:= .agg #[iV a.ek,iV a.ep,iV a.ei,iV a.eb,iV a.eh,iV a.en]) 6 rfl (iP.pX [1,0]) (λ_ aa7=>(aj rfl rfl (cZ (cs:=[iV a.ek,iV a.ep,iV a.ei,iV a.eb,iV a.eh,iV a.en]) (St.rg 0 aa7 rfl (mU (x:=5) (m:=6) rfl))))) ?_;refine aL 4 ?_;refine aU 11 ?_;refine je (i:=11) rfl rfl (v:=iV ((m.calls:Nat):Int)) (wn rfl) rfl rfl (aj rfl rfl (aC (St.cl 0 iP rfl amZ))) ?_;refine cO ?_;refine ak (v:= .agg #[iV 0,iV (-1),iV a.nd,iV ((q:Nat):Int),iV 0,iV 0,iV 0,iV a.ek,iV a.ep,iV a.ei,iV a.eb,iV a.eh,iV a.en,.slice none 0 0,.bool false,iV ((m.calls:Nat):Int),iV 0,iV 0,iV 0,iV 0,iV 0,iV 0,iV 0]) 12 rfl (iP.pX [1,0]) (λ_ _=>gD) ?_;refine aU 13 ?_;refine jI 13 rfl eQ (gV (x:=⟨F9 a.nd q a.op m.calls,none,0⟩) iP (by have:=qN.fl;omega)) ?_;rintro _ w41 ⟨rfl,A37,c38,auz,aoD,wo⟩;refine ⟨_,rfl,?_⟩;refine aL 2 ?_;refine zN 6 ?_;refine vv (aj rfl rfl (aC (St.cl 0 wo rfl amZ))) ?_;refine vv (v:=iV ((m.calls+1:Nat):Int)) fJ ?_;refine zN 3 ?_;refine jD 0 wo kQ ?_ (hs:=by exact awM);intro w43 Dc;refine zQ ?_;refine bQ (l':=[]) trivial (iC (aV (rs:=[]) (vs:=[]) rfl trivial ?_));rw [ahE ‹_› hqd];subst aoD;have nX:=Dc.aP [2];have rX:=nX.eG [6,6,3,3,6,6,6];rw [<-qM] at rX;exact ⟨rfl,Wd.dL (X':=X) (z':=z) (Ls:=[]) (fA:=A37) (fc:=c38) (fx:=R.fx++[(⟨F9 a.nd q a.op m.calls,none,0⟩:LX)]) (sA:=R.sA) (sc:=R.sc) (tA:=R.tA) (tc:=R.tc) hkn bU hrr G hn rX NG.more (oD (iW rfl)) (aF hX).symm (by rw [List.map_append,G.fly];rfl) mI⟩
 refine zN 7 ?_;by_cases h47:a.kd=3
 ·refine zN 5 ?_;have vO:St B w0 w2 [.blk b1 #[iV a.kd,iV a.nd,iV a.qu,iV a.at_,iV a.kp,iV a.ek,iV a.ep,iV a.ei,iV a.eb,iV a.eh,iV a.en] 71]:=S3.sub (List.Sublist.cons_cons _ (List.nil_sublist _));have Wt:=S3.drew;have uF:=vO.drew;refine aN 10 uF [] ?_;refine aL 5 ?_;refine ak (v:=iV ((n:Nat):Int)) 6 rfl uF (λ_ aoF=>(Cw hnd (aj rfl rfl (aC (St.cl 0 aoF rfl rfl))))) ?_;refine aU 4 ?_;refine je (i:=4) rfl rfl (v:= .slice (aD ab ao) 5 R.nc) (wn rfl) rfl rfl (aj rfl rfl (aC (St.cl 4 Wt rfl AV))) ?_;refine cO ?_;refine ak 7 rfl uF (λ_ _=>jf n) ?_;refine aU 8 ?_;refine je (i:=8) rfl rfl (v:=pV kn 0) (wn rfl) rfl rfl (aj rfl rfl (aC (hkn▸vT harr hn Wt (memT 8 rfl hL)))) ?_;refine cO ?_;refine aU 9 ?_;have qW:=Wt.eG [7,7,7,7,7,7,7];have Ar:=qW;rw [<-qM] at Ar;have aD6:=Wd.dL (m:=m) (m':=m) (H:=H) (H':=H) (fs:=(.blk b1 #[iV a.kd,iV a.nd,iV a.qu,iV a.at_,iV a.kp,iV a.ek,iV a.ep,iV a.ei,iV a.eb,iV a.eh,iV a.en] 71)::fs) (X':=X) (z':=z) (Ls:=[]) (fA:=R.fA) (fc:=R.fc) (fx:=R.fx) (sA:=R.sA) (sc:=R.sc) (tA:=R.tA) (tc:=R.tc) (rr:=(.blk b1 #[iV a.kd,iV a.nd,iV a.qu,iV a.at_,iV a.kp,iV a.ek,iV a.ep,iV a.ei,iV a.eb,iV a.eh,iV a.en] 71)::rr) hkn bU (by rw [<-hrr]<;>rfl) G hn Ar NG.more (λu hu=> .inl hu) (aF hX).symm G.fly.symm mI;refine jI 9 rfl eQ (YF hn hkn bU hu (by have:=qN.fi hn;omega) (by have:=qN.aQ;have:=qN.il hn;omega) (by have:=qN.turn n hn;omega) aD6 (qN.kr n hn).mP (λl hl=>uV (qN.lC n hn l hl)) (λp h=>(qN.kr n hn).fit h)) ?_;rintro _ w61 ⟨rfl,avz⟩;refine ⟨_,rfl,?_⟩;have GN:=Wd.Iu (gs:=[.blk b1 #[iV a.kd,iV a.nd,iV a.qu,iV a.at_,iV a.kp,iV a.ek,iV a.ep,iV a.ei,iV a.eb,iV a.eh,iV a.en] 71]) avz;refine aL 2 ?_;refine bQ (l':=[]) trivial (iC (aV (rs:=[]) (vs:=[]) rfl trivial ?_));rw [ahF ‹_› hnd];exact ⟨rfl,(Wd.less (gs:=[.blk b1 #[iV a.kd,iV a.nd,iV a.qu,iV a.at_,iV a.kp,iV a.ek,iV a.ep,iV a.ei,iV a.eb,iV a.eh,iV a.en] 71]) avz)⟩
 refine zN 8 ?_;by_cases h63:a.kd=4
 ·refine zN 11 ?_;refine vv (v:=iV ((a.at_.toNat:Nat):Int)) (Cw apg (aj rfl rfl (aC (St.cl 0 S3 rfl rfl)))) ?_;refine zN 6 ?_;have S64:=S3.eG [7,7,7,7,7,7,7];have F3:=S64;rw [<-qM] at F3;have aD7:=Wd.dL (m:=m) (m':=m) (H:=H) (H':=H) (fs:=(.blk b1 #[iV a.kd,iV a.nd,iV a.qu,iV a.at_,iV a.kp,iV a.ek,iV a.ep,iV a.ei,iV a.eb,iV a.eh,iV a.en] 71)::fs) (X':=X) (z':=z) (Ls:=[]) (fA:=R.fA) (fc:=R.fc) (fx:=R.fx) (sA:=R.sA) (sc:=R.sc) (tA:=R.tA) (tc:=R.tc) (rr:=(.blk b1 #[iV a.kd,iV a.nd,iV a.qu,iV a.at_,iV a.kp,iV a.ek,iV a.ep,iV a.ei,iV a.eb,iV a.eh,iV a.en] 71)::rr) hkn bU (by rw [<-hrr]<;>rfl) G hn F3 NG.more (λu hu=> .inl hu) (aF hX).symm G.fly.symm mI;refine dF eQ (Em hn hkn bU hu (by have:=qN.fl;omega) (by have:=qN.bH;omega) (λj hj=>by have:=qN.il hj;omega) aD7 (λl hl=>(qN.qC l hl).tgt)) ?_;rintro _ w68 ⟨rfl,avA⟩;refine ⟨_,rfl,?_⟩;have uE:=Wd.Iu (gs:=[.blk b1 #[iV a.kd,iV a.nd,iV a.qu,iV a.at_,iV a.kp,iV a.ek,iV a.ep,iV a.ei,iV a.eb,iV a.eh,iV a.en] 71]) avA;refine zQ ?_;refine bQ (l':=[]) trivial (iC (aV (rs:=[]) (vs:=[]) rfl trivial ?_));rw [alV ‹_›];exact ⟨rfl,(Wd.less (gs:=[.blk b1 #[iV a.kd,iV a.nd,iV a.qu,iV a.at_,iV a.kp,iV a.ek,iV a.ep,iV a.ei,iV a.eb,iV a.eh,iV a.en] 71]) avA)⟩
 refine zN 7 ?_;by_cases h70:a.kd=5
 ·refine zN 11 ?_;refine vv (v:=iV ((a.at_.toNat:Nat):Int)) (Cw apg (aj rfl rfl (aC (St.cl 0 S3 rfl rfl)))) ?_;refine zN 6 ?_;have lu:=S3.eG [7,7,7,7,7,7,7];have tY:=lu;rw [<-qM] at tY;have aD8:=Wd.dL (m:=m) (m':=m) (H:=H) (H':=H) (fs:=(.blk b1 #[iV a.kd,iV a.nd,iV a.qu,iV a.at_,iV a.kp,iV a.ek,iV a.ep,iV a.ei,iV a.eb,iV a.eh,iV a.en] 71)::fs) (X':=X) (z':=z) (Ls:=[]) (fA:=R.fA) (fc:=R.fc) (fx:=R.fx) (sA:=R.sA) (sc:=R.sc) (tA:=R.tA) (tc:=R.tc) (rr:=(.blk b1 #[iV a.kd,iV a.nd,iV a.qu,iV a.at_,iV a.kp,iV a.ek,iV a.ep,iV a.ei,iV a.eb,iV a.eh,iV a.en] 71)::rr) hkn bU (by rw [<-hrr]<;>rfl) G hn tY NG.more (λu hu=> .inl hu) (aF hX).symm G.fly.symm mI;refine dF eQ (Em hn hkn bU hu (by have:=qN.fl;omega) (by have:=qN.bH;omega) (λj hj=>by have:=qN.il hj;omega) aD8 (λl hl=>(qN.qC l hl).tgt)) ?_;rintro _ w75 ⟨rfl,avB⟩;refine ⟨_,rfl,?_⟩;have MZ:=Wd.Iu (gs:=[.blk b1 #[iV a.kd,iV a.nd,iV a.qu,iV a.at_,iV a.kp,iV a.ek,iV a.ep,iV a.ei,iV a.eb,iV a.eh,iV a.en] 71]) avB;refine zQ ?_;refine bQ (l':=[]) trivial (iC (aV (rs:=[]) (vs:=[]) rfl trivial ?_));rw [alW ‹_›];exact ⟨rfl,(Wd.less (gs:=[.blk b1 #[iV a.kd,iV a.nd,iV a.qu,iV a.at_,iV a.kp,iV a.ek,iV a.ep,iV a.ei,iV a.eb,iV a.eh,iV a.en] 71]) avB)⟩
 refine zN 6 ?_;by_cases h77:a.kd=6
 ·refine zN 8 ?_;refine vv (v:=iV ((a.at_.toNat:Nat):Int)) (Cw apg (aj rfl rfl (aC (St.cl 0 S3 rfl rfl)))) ?_;refine zN 6 ?_;have GU:=S3.eG [7,7,7,7,7,7,7];have Cm:=GU;rw [<-qM] at Cm;have aD9:=Wd.dL (m:=m) (m':=m) (H:=H) (H':=H) (fs:=(.blk b1 #[iV a.kd,iV a.nd,iV a.qu,iV a.at_,iV a.kp,iV a.ek,iV a.ep,iV a.ei,iV a.eb,iV a.eh,iV a.en] 71)::fs) (X':=X) (z':=z) (Ls:=[]) (fA:=R.fA) (fc:=R.fc) (fx:=R.fx) (sA:=R.sA) (sc:=R.sc) (tA:=R.tA) (tc:=R.tc) (rr:=(.blk b1 #[iV a.kd,iV a.nd,iV a.qu,iV a.at_,iV a.kp,iV a.ek,iV a.ep,iV a.ei,iV a.eb,iV a.eh,iV a.en] 71)::rr) hkn bU (by rw [<-hrr]<;>rfl) G hn Cm NG.more (λu hu=> .inl hu) (aF hX).symm G.fly.symm mI;refine dF eQ (Em hn hkn bU hu (by have:=qN.fl;omega) (by have:=qN.bH;omega) (λj hj=>by have:=qN.il hj;omega) aD9 (λl hl=>(qN.qC l hl).tgt)) ?_;rintro _ w82 ⟨rfl,avC⟩;refine ⟨_,rfl,?_⟩;have DX:=Wd.Iu (gs:=[.blk b1 #[iV a.kd,iV a.nd,iV a.qu,iV a.at_,iV a.kp,iV a.ek,iV a.ep,iV a.ei,iV a.eb,iV a.eh,iV a.en] 71]) avC;refine zQ ?_;refine bQ (l':=[]) trivial (iC (aV (rs:=[]) (vs:=[]) rfl trivial ?_));rw [alX ‹_›];exact ⟨rfl,(Wd.less (gs:=[.blk b1 #[iV a.kd,iV a.nd,iV a.qu,iV a.at_,iV a.kp,iV a.ek,iV a.ep,iV a.ei,iV a.eb,iV a.eh,iV a.en] 71]) avC)⟩
 refine zN 7 ?_;by_cases h84:a.kd=7
 ·refine zN 10 ?_;refine vv (aj rfl rfl (aC (St.cl 4 S3 rfl Sk))) ?_;refine zN 8 ?_;refine jD 4 S3 kQ ?_ (hs:=by exact aoA);intro w85 Cn;refine zN 10 ?_;have Ez:=Cn.aP [0];have JN:=Ez.nil 140 23;have GJ:=((((((((JN.bring 5 rfl).bring 7 rfl).bring 7 rfl).bring 3 rfl).bring 7 rfl).bring 7 rfl).bring 7 rfl).bring 7 rfl);rw [<-qM] at GJ;obtain ⟨m1,hm1⟩: ∃ k,k=({ m with fly:=[] }:Cl):=⟨_,rfl⟩;have HW1:Wd K B w0 w85 ((oL R.fA R.fx R.fc)::fs) m1 (R.fx++H):=by
   rw [hm1];exact Wd.dL (m:=m) (H:=H) (fs:=(oL R.fA R.fx R.fc)::fs) (X':=X) (z':=z) (Ls:=[]) (fA:=none) (fc:=0) (fx:=[]) (sA:=R.sA) (sc:=R.sc) (tA:=R.tA) (tc:=R.tc) (rr:=(oL R.fA R.fx R.fc)::rr) hkn bU (by rw [<-hrr];rfl) G hn GJ NG.more (λu hu=>by simp at hu) (aF hX).symm rfl (λu hu=>(List.mem_append.1 hu).elim (λh=> .inr ((G.flo u h).mono λf hf=>List.mem_append_left _ hf)) .inl)
  have hB0:=ahB qN;rw [<-hm1] at hB0;refine dN (X:=Nat×Cl) (λxv=>[(0,pV kw 0),(90,.slice R.fA R.fx.length R.fc),(91,iV ((R.fx.length:Nat):Int)),(92,iV ((xv.1:Nat):Int))]) (λxv wr=>(Wd K B w0 wr ((oL R.fA R.fx R.fc)::fs) xv.2 (R.fx.drop xv.1++H))/\(m.fly.foldl Cl.come m1=(m.fly.drop xv.1).foldl Cl.come xv.2)/\(xv.1<=R.fx.length)/\(dM xv.2 (4*k+xv.1) (500000*k) (500000*k+xv.1) k)/\St B w0 wr [.own 140 23 (.slice R.fA R.fx.length R.fc) R.fx.length ((R.fx).flatMap LX.cells)]) (λxv=>R.fx.length-xv.1) (0,m1) ?_ ?_ ?_
  ·exact ⟨HW1,rfl,Nat.zero_le _,hB0,Wd.Iu (gs:=[.own 140 23 (.slice R.fA R.fx.length R.fc) R.fx.length ((R.fx).flatMap LX.cells)]) HW1⟩
  ·exact ji
  rintro ⟨k2,mm⟩ w90 ⟨aph,apj,aEa,adD,M0⟩
  try dsimp only at aph apj aEa adD M0
  refine aZ (l':=[(0,pV kw 0),(90,.slice R.fA R.fx.length R.fc),(91,iV ((R.fx.length:Nat):Int)),(92,iV ((k2:Nat):Int))]) ji ?_;obtain ⟨R3,G3,Ws⟩:=aph.open hn;have Ui:=G3.kr n hn;obtain ⟨X3,CQ⟩: ∃ X,mm.ah n=X:=⟨_,rfl⟩;obtain ⟨z3,hz3⟩: ∃ z,R3.nx n=z:=⟨_,rfl⟩;rw [CQ,hz3] at Ws Ui;obtain ⟨rr3,JC⟩: ∃ r,gy K R3 mm fs n=r:=⟨_,rfl⟩;have D5:St B w0 w90 ((bN kn n X3.up z3.tA X3.data z3.tc X3.syn z3.bb X3.hints X3.sure z3.iA z3.ix z3.ic z3.pv X3.turn)::(oB z3.bb z3.bx)::(fL z3.iA z3.ix z3.ic)::(bW kw (.slice R3.nA 5 R3.nc) mm.off R3.fA R3.fx R3.fc mm.shown R3.sA mm.aQ R3.sc R3.tA mm.bH R3.tc mm.calls)::(oL R3.fA R3.fx R3.fc)::(oS R3.sA mm.aQ R3.sc)::(oT R3.tA mm.bH R3.tc)::(oL R.fA R.fx R.fc)::rr3):=by rw [<-JC];subst hkn;subst bU;exact Ws
  clear Ws;refine zN 2 ?_;by_cases h97:((k2:Nat):Int)< ((R.fx.length:Nat):Int)
  ·refine zN 10 ?_;obtain ⟨x,hx⟩: ∃ x,R.fx[k2]? =some x:=⟨_,List.getElem?_eq_getElem oQ⟩;have hxf:m.fly[k2]? =some x.l:=by rw [<-G.fly,List.getElem?_map,hx];rfl
   have hxb:=qN.qC x.l (List.mem_of_getElem? hxf);refine zQ ?_;obtain ⟨fb,fo,hfA⟩:=rd_some (St.ord 7 D5 rfl) oQ;refine vv (v:=pV fb (fo+k2*23)) (aR rfl rfl rfl (gB k2 hfA Tryz.underlying99 kQ oQ oQ)) ?_;refine vv (v:= .agg (LX.row x)) (aj rfl rfl (cZ (cs:=LX.cells x) (λj u hu=>by rw [Nat.add_assoc];exact Jv (St.ord 7 D5 rfl) hfA (aW (enc:=LX.cells) (sz:=23) (k:=k2) (λ_=>rfl) hx hu)))) ?_;refine gq D5 adX ?_;intro b98 w99 sI;refine stA 0 sI kQ ?_ (h1:=EG _);intro atf tu;refine zN 5 ?_;have qd:=tu.aP [0];have axI:=Wd.dL (m:=mm) (m':=mm) (H:=R.fx.drop k2++H) (H':=x::(R.fx.drop (k2+1)++H)) (fs:=(oL R.fA R.fx R.fc)::fs) (X':=X3) (z':=z3) (Ls:=[]) (fA:=R3.fA) (fc:=R3.fc) (fx:=R3.fx) (sA:=R3.sA) (sc:=R3.sc) (tA:=R3.tA) (tc:=R3.tc) (rr:=(oL R.fA R.fx R.fc)::rr3) hkn bU (by rw [<-JC];rfl) G3 hn ((((((((qd.bring 7 rfl).bring 7 rfl).bring 7 rfl).bring 7 rfl).bring 7 rfl).bring 7 rfl).bring 7 rfl).bring 7 rfl) Ui.more (λu hu=> .inl hu) (aF CQ).symm G3.fly.symm (by rw [drop_cons hx];exact mI);obtain ⟨jj,hjj,htt⟩:=hxb.tgt;refine dF eQ (El (m:=mm) (x:=x) hjj rfl bU hu (by have:=(adD).fl;omega) (by have:=(adD).bH;omega) (by have:=(adD).il hjj;omega) axI htt) ?_;rintro _ abG ⟨rfl,aec⟩;refine ⟨_,rfl,?_⟩;obtain ⟨mc,hmc⟩: ∃ k,k=mm.come x.l:=⟨_,rfl⟩;have zn:=Wd.Iu (gs:=[.own 140 23 (.slice R.fA R.fx.length R.fc) R.fx.length ((R.fx).flatMap LX.cells)]) aec;refine zN 4 ?_;refine vv (v:=iV ((k2+1:Nat):Int)) fJ ?_;refine zN 2 ?_;refine aM (k2+1,mc) ?_ ji (by first | omega | (dsimp only;omega));exact ⟨(by dsimp only;rw [hmc];exact aec),(by dsimp only;rw [apj,ahC hxf,<-hmc]),uQ,(by dsimp only;rw [hmc];exact (Hf adD hxb).mono oQ (Nat.le_refl _) oQ (Nat.le_refl _)),(Wd.Iu (gs:=[.own 140 23 (.slice R.fA R.fx.length R.fc) R.fx.length ((R.fx).flatMap LX.cells)]) (hmc▸aec))⟩
  refine zN 11 ?_;have qV:m.act a=mm:=by rw [alY ‹_›];show m.fly.foldl Cl.come { m with fly:=[] }=mm;rw [<-hm1,apj,List.drop_eq_nil_of_le oQ];rfl
  rw [qV];have aEb:R.fx.length<=k2:=oQ;exact ⟨rfl,Wd.less (gs:=[.own 140 23 (.slice R.fA R.fx.length R.fc) R.fx.length ((R.fx).flatMap LX.cells)]) (by have h9:=aph;rw [List.drop_eq_nil_of_le aEb] at h9;exact h9)⟩
 refine zN 7 ?_;by_cases aoL:a.kd=8
 ·refine zN 6 ?_;refine bV S3 mixed kQ ?_;refine zN 3 ?_;refine uv (v:= .slice (aD ab ao) 5 R.nc) (λ_ axJ=>(aj rfl rfl (aC (St.cl 4 axJ rfl AV)))) ?_;refine zQ ?_;refine uv (v:=iV ((n:Nat):Int)) (λ_ axK=>(Cw hnd (aj rfl rfl (aC (St.cl 0 axK rfl rfl))))) ?_;refine uv (λ_ _=>jf n) ?_;refine uv (v:=pV kn 0) (λ_ axL=>(aj rfl rfl (aC (hkn▸vT harr hn axL (memT 8 rfl hL))))) ?_;refine zQ ?_;refine dh λaiw oZ=>?_;refine zN 9 ?_
  cases aGH:(X.up)
  ·refine aZ (l':=[(3,pV b1 0),(7,pV kn 0),(113,.bool false)]) FJ (kM rfl (pQ (iC (aV (rs:=[]) (vs:=[]) rfl trivial ?_))));have AQ:=oZ.aP [0];have AO:=AQ;rw [<-qM] at AO;have axM:=Wd.dL (m:=m) (m':=m) (H:=H) (H':=H) (fs:=fs) (X':=X) (z':=z) (Ls:=[]) (fA:=R.fA) (fc:=R.fc) (fx:=R.fx) (sA:=R.sA) (sc:=R.sc) (tA:=R.tA) (tc:=R.tc) (rr:=rr) hkn bU (by rw [<-hrr]<;>rfl) G hn AO NG.more (λu hu=> .inl hu) (aF hX).symm G.fly.symm mI;rw [PG ‹_› hnd,adC (by rw [hX];assumption)];exact ⟨rfl,axM⟩
  refine aZ (l':=[(3,pV b1 0),(7,pV kn 0),(113,.bool true)]) FJ (lY rfl (aH ?_));have OV:=oZ.drew;refine aN 14 OV [1] ?_;refine aL 6 ?_;refine aU 4 ?_;refine je (i:=4) rfl rfl (v:= .agg #[.slice z.tA X.data.length z.tc,iV X.syn]) (wn rfl) rfl rfl (aj rfl rfl (cZ (cs:=[.slice z.tA X.data.length z.tc,iV X.syn]) (St.rg 1 OV rfl (sw)))) ?_;refine cO ?_;refine aU 7 ?_;refine jI 7 rfl eQ (BM (Uy z.tA X.data.length z.tc X.data X.syn a.kp _ (NG.yD.rd OV (memT 8 rfl hL)))) ?_;rintro _ WJ ⟨aiH,apk,rfl,aEc⟩;refine ⟨_,rfl,?_⟩;have yj:=OV.ext aEc rfl;refine aL 6 ?_;refine aU 13 ?_;refine snz (row':=dI n X.up (.slice aiH ((mY X.data X.syn a.kp).1.length) apk) ((mY X.data X.syn a.kp).2.1) (.slice (aD z.bb 0) 4 4) X.hints X.sure (.slice z.iA z.ix.length z.ic) (z.pv) X.turn) 13 rfl 2 yj kQ ?_;intro aug Ja;refine aL 2 ?_;refine zN 6 ?_;refine jD (row':=dI n false (.slice aiH ((mY X.data X.syn a.kp).1.length) apk) ((mY X.data X.syn a.kp).2.1) (.slice (aD z.bb 0) 4 4) X.hints X.sure (.slice z.iA z.ix.length z.ic) (z.pv) X.turn) 2 Ja kQ ?_;intro aou Fp;refine zN 4 ?_;have Mf:=Fp.eG [2];refine dF eQ (nG Mf hu) ?_;rintro _ ati ⟨rfl,axN,Dt⟩;refine ⟨_,rfl,?_⟩;have AP:=Dt.aP [5,4,3];refine zQ ?_;refine bQ (l':=[]) trivial (iC (aV (rs:=[]) (vs:=[]) rfl trivial ?_));rw [PG ‹_› hnd,ahG (by rw [hX];assumption)];have OW:=AP.C9 140 23;have Oo:=OW.eG [7,7,7,7,4,6,6];rw [<-qM] at Oo;exact ⟨rfl,Wd.dL (X':=X.crashed a.kp) (z':={ bb:=axN,tA:=aiH,tc:=apk,bx:=sU,iA:=none,ic:=0,ix:=[],pv:= .nilFunc }) (Ls:=[.bJ 1 aiH ((mY X.data X.syn a.kp).1.length) (byteCells ((mY X.data X.syn a.kp).1))]) (fA:=R.fA) (fc:=R.fc) (fx:=R.fx) (sA:=R.sA) (sc:=R.sc) (tA:=R.tA) (tc:=R.tc) hkn bU hrr G hn Oo ⟨rfl,O7,Ro.bJ (List.mem_append_right _ (List.mem_singleton.2 rfl)),rfl,λy hy=>(by cases hy),rfl⟩ (λu hu=> .inl hu) (by rw [hX];rfl) G.fly.symm mI⟩
 refine zN 7 ?_;by_cases aLw:a.kd=9
 ·refine zN 5 ?_;have ao1:St B w0 w2 [.blk b1 #[iV a.kd,iV a.nd,iV a.qu,iV a.at_,iV a.kp,iV a.ek,iV a.ep,iV a.ei,iV a.eb,iV a.eh,iV a.en] 71]:=S3.sub (List.Sublist.cons_cons _ (List.nil_sublist _));have Wt:=S3.drew;have vH:=ao1.drew;refine aN 10 vH [] ?_;refine aL 5 ?_;refine ak (v:=iV ((n:Nat):Int)) 6 rfl vH (λ_ adZ=>(Cw hnd (aj rfl rfl (aC (St.cl 0 adZ rfl rfl))))) ?_;refine aU 4 ?_;refine je (i:=4) rfl rfl (v:= .slice (aD ab ao) 5 R.nc) (wn rfl) rfl rfl (aj rfl rfl (aC (St.cl 4 Wt rfl AV))) ?_;refine cO ?_;refine ak 7 rfl vH (λ_ _=>jf n) ?_;refine aU 8 ?_;refine je (i:=8) rfl rfl (v:=pV kn 0) (wn rfl) rfl rfl (aj rfl rfl (aC (hkn▸vT harr hn Wt (memT 8 rfl hL)))) ?_;refine cO ?_;refine aU 9 ?_;have Jd:=Wt.eG [7,7,7,7,7,7,7];have Xa:=Jd;rw [<-qM] at Xa;have Xt:=Wd.dL (m:=m) (m':=m) (H:=H) (H':=H) (fs:=(.blk b1 #[iV a.kd,iV a.nd,iV a.qu,iV a.at_,iV a.kp,iV a.ek,iV a.ep,iV a.ei,iV a.eb,iV a.eh,iV a.en] 71)::fs) (X':=X) (z':=z) (Ls:=[]) (fA:=R.fA) (fc:=R.fc) (fx:=R.fx) (sA:=R.sA) (sc:=R.sc) (tA:=R.tA) (tc:=R.tc) (rr:=(.blk b1 #[iV a.kd,iV a.nd,iV a.qu,iV a.at_,iV a.kp,iV a.ek,iV a.ep,iV a.ei,iV a.eb,iV a.eh,iV a.en] 71)::rr) hkn bU (by rw [<-hrr]<;>rfl) G hn Xa NG.more (λu hu=> .inl hu) (aF hX).symm G.fly.symm mI;refine jI 9 rfl eQ (Vv hn hkn bU hu (by have:=qN.fl;omega) (by have:=qN.aQ;omega) Xt (qN.kr n hn).RN.1 (qN.kr n hn).RN.2.1 (qN.kr n hn).RN.2.2.1 (qN.kr n hn).RN.2.2.2 hsh) ?_;rintro _ aAq ⟨rfl,anz⟩;refine ⟨_,rfl,?_⟩;have atb:=Wd.Iu (gs:=[.blk b1 #[iV a.kd,iV a.nd,iV a.qu,iV a.at_,iV a.kp,iV a.ek,iV a.ep,iV a.ei,iV a.eb,iV a.eh,iV a.en] 71]) anz;refine aL 2 ?_;refine bQ (l':=[]) trivial (iC (aV (rs:=[]) (vs:=[]) rfl trivial ?_));rw [adA ‹_› hnd];exact ⟨rfl,(Wd.less (gs:=[.blk b1 #[iV a.kd,iV a.nd,iV a.qu,iV a.at_,iV a.kp,iV a.ek,iV a.ep,iV a.ei,iV a.eb,iV a.eh,iV a.en] 71]) anz)⟩
 refine zN 8 ?_;refine vv (v:=iV ((q:Nat):Int)) (Cw hqd (aj rfl rfl (aC (St.cl 0 S3 rfl rfl)))) ?_;refine zN 2 ?_;obtain ⟨PW,vU⟩: ∃ r,aY m.off q=r:=⟨_,rfl⟩;obtain ⟨nn,hnn,hwn⟩:=alU vU;have aov:=S3.eG [7,7,7,7,7,7,7];have WK:=aov;rw [<-qM] at WK;have axO:=Wd.dL (m:=m) (m':=m) (H:=H) (H':=H) (fs:=(.blk b1 #[iV a.kd,iV a.nd,iV a.qu,iV a.at_,iV a.kp,iV a.ek,iV a.ep,iV a.ei,iV a.eb,iV a.eh,iV a.en] 71)::fs) (X':=X) (z':=z) (Ls:=[]) (fA:=R.fA) (fc:=R.fc) (fx:=R.fx) (sA:=R.sA) (sc:=R.sc) (tA:=R.tA) (tc:=R.tc) (rr:=(.blk b1 #[iV a.kd,iV a.nd,iV a.qu,iV a.at_,iV a.kp,iV a.ek,iV a.ep,iV a.ei,iV a.eb,iV a.eh,iV a.en] 71)::rr) hkn bU (by rw [<-hrr]<;>rfl) G hn WK NG.more (λu hu=> .inl hu) (aF hX).symm G.fly.symm mI;refine dF eQ (YH hnn rfl bU hu (by have:=qN.fl;omega) (by have:=qN.aQ;omega) hq axO (qN.kr nn hnn).mP vU hwn) ?_;rintro _ aoj ⟨rfl,anA⟩;refine ⟨_,rfl,?_⟩;have WT:=Wd.Iu (gs:=[.blk b1 #[iV a.kd,iV a.nd,iV a.qu,iV a.at_,iV a.kp,iV a.ek,iV a.ep,iV a.ei,iV a.eb,iV a.eh,iV a.en] 71]) anA;refine zQ ?_;refine bQ (l':=[]) trivial (iC (aV (rs:=[]) (vs:=[]) rfl trivial ?_));rw [adB ‹_› ‹_› ‹_› ‹_› ‹_› ‹_› ‹_› ‹_› ‹_› hqd];exact ⟨rfl,(Wd.less (gs:=[.blk b1 #[iV a.kd,iV a.nd,iV a.qu,iV a.at_,iV a.kp,iV a.ek,iV a.ep,iV a.ei,iV a.eb,iV a.eh,iV a.en] 71]) anA)⟩
def vZ:List Ac->Int
 | []=>0
 | a::l=>if bY a≠0 then bY a else vZ l
def CS (l:List Ac):Int:=if 100000<l.length then 1 else vZ l
section
variable {l:List Ac} {k:Nat} {x:Ac}
theorem asw (h:l[k]? =some x) (hf:bY x=0):vZ (l.drop k)=vZ (l.drop (k+1)):=by rw [drop_cons h,vZ,if_neg (λe=>e hf)]
theorem alZ (h:l[k]? =some x) (hf: ¬ bY x=0):vZ (l.drop k)=bY x:=by rw [drop_cons h,vZ,if_pos hf]
theorem Qt (h: ¬ 100000<l.length):CS l=vZ l:=if_neg h
theorem ahI (h:100000<l.length):CS l=1:=if_pos h
theorem LV: ∀ {l:List Ac},vZ l=0-> ∀ a∈l,bY a=0
 | [],_,a,ha=>by simp at ha
 | x::l,h,a,ha=>by
  rw [vZ] at h
  split at h
  ·rename_i hx;exact absurd h hx
  rename_i hx
  rcases List.mem_cons.1 ha with rfl | ha
  ·exact Classical.not_not.1 hx
  exact LV h a ha
theorem al0 (h:CS l=0):l.length<=100000/\ ∀ a∈l,bY a=0:=by
 unfold CS at h
 split at h
 ·cases h
 exact ⟨by omega,LV h⟩
theorem al1 (h:l[k]? =some x):l.take (k+1)=l.take k++[x]:=by rw [List.take_add_one,h];rfl
theorem ahJ {m:Cl} {l:List Ac}:m.run (l++[x])=(m.run l).act x:=by unfold Cl.run;rw [List.foldl_append];rfl
end
def Gs (fl:Nat) (U:Nat->Bool) (d:Dir) (bv sv tv:Value) (calls:Nat):List Value:=
 [iV ((fl:Nat):Int),.bool (U 0),.bool (U 1),.bool (U 2),.bool (U 3),.bool (U 4),iV d.p0.node,iV d.p0.epoch,iV d.p1.node,iV d.p1.epoch,iV d.p2.node,iV d.p2.epoch,iV d.p3.node,iV d.p3.epoch,bv,sv,tv,iV ((calls:Nat):Int)]
def nN (fl:Nat) (U:Nat->Bool) (d:Dir) (bv sv tv:Value) (calls:Nat):Array Value:=(Gs fl U d bv sv tv calls).toArray
def al2:Array Value:= #[iV 0,.bool false,.bool false,.bool false,.bool false,.bool false,iV 0,iV 0,iV 0,iV 0,iV 0,iV 0,iV 0,iV 0,.slice none 0 0,.slice none 0 0,.slice none 0 0,iV 0]
section
variable {fl calls q k:Nat} {U:Nat->Bool} {d:Dir} {bv sv tv fv nv:Value} {sh:Nat->Nat->Int×Int}
theorem anB (h1:bv.oneCell'=true) (h2:sv.oneCell'=true) (h3:tv.oneCell'=true): ∀ u∈(nN fl U d bv sv tv calls).toList,u.oneCell'=true:=by
 intro u hu;simp only [nN,Gs,List.mem_cons,List.not_mem_nil,or_false] at hu
 rcases hu with rfl | rfl | rfl | rfl | rfl | rfl | rfl | rfl | rfl | rfl | rfl | rfl | rfl | rfl | rfl | rfl | rfl | rfl<;>first | rfl | assumption
theorem Xu {fl' calls' o:Nat} {U':Nat->Bool} {d':Dir} {bv' sv' tv':Value} {vs:List Value} (h:o+vs.length<=18) (he:(Gs fl U d bv sv tv calls).take o++vs++(Gs fl U d bv sv tv calls).drop (o+vs.length)=Gs fl' U' d' bv' sv' tv' calls'):
  cu (nN fl U d bv sv tv calls) o vs=nN fl' U' d' bv' sv' tv' calls':=Array.ext' (by rw [iq _ _ _ h];exact he)
theorem aEd {fl':Nat}:cu (nN fl U d bv sv tv calls) 0 [iV ((fl':Nat):Int)]=nN fl' U d bv sv tv calls:=Xu (Nat.le_of_ble_eq_true rfl) rfl
theorem aEe {d':Dir}:cu (nN fl U d bv sv tv calls) 6 d'.cells=nN fl U d' bv sv tv calls:=Xu (Nat.le_of_ble_eq_true rfl) rfl
theorem anC {x:Value}:cu (nN fl U d bv sv tv calls) 14 [x]=nN fl U d x sv tv calls:=Xu (Nat.le_of_ble_eq_true rfl) rfl
theorem axP (hq:q<5) {v:Bool}:cu (nN fl U d bv sv tv calls) (1+q*1) [.bool v]=nN fl (upd U q v) d bv sv tv calls:=by
 rcases five hq with rfl | rfl | rfl | rfl | rfl<;>exact Xu (Nat.le_of_ble_eq_true rfl) rfl
theorem al3: ∀ (j:Nat) (u:Value),(nN 0 (λ_=>false) (⟨⟨0,0⟩,⟨0,0⟩,⟨0,0⟩,⟨0,0⟩⟩:Dir) (.slice none 0 0) sv tv calls).toList[j]? =some u->(kS nv d fv sh sv tv calls)[50+j]? =some u:=by
 intro j u h;have hj:j<18:=(List.getElem?_eq_some_iff.1 h).1;have h2:j=0\/j=1\/j=2\/j=3\/j=4\/j=5\/j=6\/j=7\/j=8\/j=9\/j=10\/j=11\/j=12\/j=13\/j=14\/j=15\/j=16\/j=17:=oQ
 rcases h2 with rfl | rfl | rfl | rfl | rfl | rfl | rfl | rfl | rfl | rfl | rfl | rfl | rfl | rfl | rfl | rfl | rfl | rfl<;>exact h
end
def iB (p:Nat×List BX):List Value:=[.slice (aD p.1 0) 4 4]
structure P1 (L:List Fact) (m:Cl) (j:Nat) (p:Nat×List BX):Prop where
 rd:Ro L 6 (aD p.1 0) 4 (p.2.flatMap BX.cells)
 bm:p.2.map BX.b=vB (m.ah j).view
 bo: ∀ y∈p.2,Ct L y
theorem P1.mono {L L':List Fact} {m:Cl} {j:Nat} {p:Nat×List BX} (h:P1 L m j p) (hl: ∀ f∈L,f∈L'):P1 L' m j p:=⟨h.rd.mono hl,h.bm,λy hy=>(h.bo y hy).mono hl⟩
def Xv (L:List Fact) (m:Cl) (row:Array Value):Prop:= ∃ (U:Nat->Bool) (BA:Option Addr) (bc:Nat) (sA:Option Addr) (sc:Nat) (tA:Option Addr) (tc:Nat) (ps:List (Nat×List BX)),row=nN m.fly.length U m.off (.slice BA 5 bc) (.slice sA m.aQ.length sc) (.slice tA m.bH.length tc) m.calls/\(∀ j,j<5->U j=(m.ah j).up)/\ps.length=5/\
 Ro L 1 BA 5 (ps.flatMap iB)/\Ro L 14 sA m.aQ.length (m.aQ.flatMap fD.cells)/\Ro L 7 tA m.bH.length (m.bH.flatMap xk.cells)/\ ∀ j p,ps[j]? =some p->P1 L m j p
section
variable {K:CK} {R:CX} {B n k:Nat} {w0 w:World} {fs gs N E L LC:List Fact} {m:Cl} {H:List LX} {X:Nd} {z:NX} {ps:List (Nat×List BX)} {p:Nat×List BX} {bs:List BX} {bB:Nat} {U:Nat->Bool}
theorem Wd.top (h:Wd K B w0 w fs m H):St B w0 w fs:=by
 obtain ⟨R,_,S⟩:=h;exact S.sub (List.sublist_append_left _ _)
open Classical in
theorem St.shut (hn:n<5) (S:St B w0 w (kg K n (m.ah n) (R.nx n)++(uM K R m++(gs++gy K R m fs n)))):St B w0 w (gs++(fs++kY K R m)):=by
 refine S.perm (List.perm_iff_count.2 λa=>?_);have h1:=List.perm_iff_count.1 (vC (λj=>kg K j (m.ah j) (R.nx j)) hn) a;unfold gy kY lT;simp only [List.count_append] at h1⊢;omega
open Classical in
theorem St.anD (hn:n<5) (S:St B w0 w (kg K n (m.ah n) (R.nx n)++(uM K R m++(gs++((N++(fs++(lT K R m n++R.L)))++E))))):St B w0 w (gs++((E++N)++(fs++kY K R m))):=by
 refine S.perm (List.perm_iff_count.2 λa=>?_);have h1:=List.perm_iff_count.1 (vC (λj=>kg K j (m.ah j) (R.nx j)) hn) a;unfold kY lT;simp only [List.count_append] at h1⊢;omega
open Classical in
theorem St.aEf (hn:n<5) (S:St B w0 w (gs++(N++(fs++kY K R m)))):St B w0 w (kg K n (m.ah n) (R.nx n)++(uM K R m++(gs++(N++(fs++(lT K R m n++R.L)))))):=by
 refine S.perm (List.perm_iff_count.2 λa=>?_);have h1:=List.perm_iff_count.1 (vC (λj=>kg K j (m.ah j) (R.nx j)) hn) a;unfold kY lT;simp only [List.count_append] at h1⊢;omega
open Classical in
theorem St.axQ (S:St B w0 w (gs++(N++(fs++LC)))):St B w0 w ((gs++(N++LC))++fs):=by
 refine S.perm (List.perm_iff_count.2 λa=>?_);simp only [List.count_append];omega
theorem PI (hl:ps.length=k) (h: ∀ j p,ps[j]? =some p->P1 L m j p) (hn:P1 L m k p): ∀ j q,(ps++[p])[j]? =some q->P1 L m j q:=λj q hq=>by
 by_cases e:j<ps.length
 ·rw [List.getElem?_append_left e] at hq;exact h j q hq
 rw [List.getElem?_append_right oQ] at hq;have:j-ps.length=0:=by
  have:=(List.getElem?_eq_some_iff.1 hq).1;rw [List.length_singleton] at this;omega
 rw [this] at hq
 cases hq;rw [show j=k by omega];exact hn
theorem asy (hk:k<5) (hz:R.nx k=z):Fact.own 57 6 (.slice (aD z.bb 0) 4 4) 4 (z.bx.flatMap BX.cells)∈kY K R m:=by
 subst hz;refine List.mem_append_right _ (List.mem_append_left _ (List.mem_flatMap.2 ⟨k,List.mem_range.2 hk,?_⟩));exact List.mem_cons_of_mem _ (List.mem_cons_self ..)
theorem al4 (h:dW K R.L k (m.ah k) (R.nx k)) (hX:m.ah k=X) (hz:R.nx k=z) (hu:X.up=true) (hk:k<5):P1 (N++kY K R m) m k (z.bb,z.bx):=by
 have ho:=asy (K:=K) (m:=m) hk hz;subst hX;subst hz;refine ⟨Ro.own (List.mem_append_right _ ho),?_,λy hy=>(h.TG y hy).mono λf hf=>List.mem_append_right _ (List.mem_append_right _ (List.mem_append_right _ hf))⟩;rw [dU hu];exact h.Ru
theorem al5 (hm:bs.map BX.b=vB (bC X.data X.syn)) (hc: ∀ y∈bs,y.b.evs.length<=y.c) (hX:m.ah k=X) (hu:X.up=false):P1 ((Fact.own 57 6 (.slice (aD bB 0) 4 4) 4 (bs.flatMap BX.cells)::(fB bs++N))++LC) m k (bB,bs):=by
 subst hX;refine ⟨Ro.own (List.mem_append_left _ (List.mem_cons_self ..)),?_,λy hy=>(PE hc y hy).mono λf hf=>List.mem_append_left _ (List.mem_cons_of_mem _ (List.mem_append_left _ hf))⟩;unfold Nd.view;rw [if_neg (by rw [hu];simp)];exact hm
theorem Uj (h: ∀ j,j<k->U j=(m.ah j).up) (hX:m.ah k=X): ∀ j,j<k+1->upd U k X.up j=(m.ah j).up:=λj hj=>by
 by_cases e:j=k
 ·rw [e,upd_same,hX]
 rw [upd_ne e];exact h j oQ
theorem al6 {OA:Option Addr} {oc:Nat} (G:Good K R m H) (hl:ps.length=5) (hU: ∀ j,j<5->U j=(m.ah j).up) (hL:Fact.own 58 1 (.slice OA ps.length oc) ps.length (ps.flatMap iB)∈L) (hC: ∀ f∈kY K R m,f∈L) (hp: ∀ j p,ps[j]? =some p->P1 L m j p):
  Xv L m (nN R.fx.length U m.off (.slice OA ps.length oc) (.slice R.sA m.aQ.length R.sc) (.slice R.tA m.bH.length R.tc) m.calls):=by
 rw [hl] at hL⊢;have hf:R.fx.length=m.fly.length:=by rw [<-G.fly,List.length_map]
 have h1:Fact.own 69 14 (.slice R.sA m.aQ.length R.sc) m.aQ.length (m.aQ.flatMap fD.cells)∈kY K R m:=List.mem_append_left _ (List.mem_cons_of_mem _ (List.mem_cons_of_mem _ (List.mem_cons_self ..)));have h2:Fact.own 138 7 (.slice R.tA m.bH.length R.tc) m.bH.length (m.bH.flatMap xk.cells)∈kY K R m:=List.mem_append_left _ (List.mem_cons_of_mem _ (List.mem_cons_of_mem _ (List.mem_cons_of_mem _ (List.mem_cons_self ..))));exact ⟨U,OA,oc,R.sA,R.sc,R.tA,R.tc,ps,by rw [hf],hU,hl,Ro.own hL,Ro.own (hC _ h1),Ro.own (hC _ h2),hp⟩
end
theorem adE {B:Nat} {w0 w:World} {fs:List Fact} {A:Option Addr} {c:Nat} {l:List Ac} (S:St B w0 w fs) (hu:Uk B w0) (BO:Ro fs 11 A l.length (l.flatMap Ac.cells)) (hb:l.length*88<=reachBytes):
    Calls Tryz.prog 15 #[.slice A l.length c] w (λe w'=>(CS l≠0->e= .returned (.tuple #[.agg al2,iV (CS l)])/\St B w0 w' fs)/\(CS l=0-> ∃ row L,e= .returned (.tuple #[.agg row,iV 0])/\Xv L (mD.run l) row/\St B w0 w' (L++fs))):=by
 have hb2:=hb;unfold reachBytes at hb2;refine gu 99 Tryz.func15 ?_;refine cw [0] ?_;refine zN 2 ?_;refine gq S ahV ?_;intro b1 w2 S3;refine zN 8 ?_;by_cases h4:100000< ((l.length:Nat):Int)
 ·refine zN 7 ?_;refine sa 0 S3 kQ ?_;intro w5 S6;refine zN 6 ?_;have S7:=S6.aP [0];have hsf:CS l=1:=ahI oQ;refine ⟨λ_=>⟨by rw [hsf];rfl,S7⟩,λh=>?_⟩;rw [hsf] at h;exact absurd h (by first | decide | assumption)
 refine zN 15 ?_;refine dN (X:=Nat) (λxv=>[(0,.slice A l.length c),(2,pV b1 0),(3,iV 0),(18,.slice A l.length c),(19,iV ((l.length:Nat):Int)),(20,iV ((xv:Nat):Int))]) (λxv wr=>(xv<=l.length)/\(vZ l=vZ (l.drop xv))/\St B w0 wr ((.blk b1 #[iV 0,.bool false,.bool false,.bool false,.bool false,.bool false,iV 0,iV 0,iV 0,iV 0,iV 0,iV 0,iV 0,iV 0,.slice none 0 0,.slice none 0 0,.slice none 0 0,iV 0] 35)::fs)) (λxv=>l.length-xv) (0) ?_ ?_ ?_
 ·exact ⟨Nat.zero_le _,rfl,S3⟩
 ·exact rP
 rintro k1 w8 ⟨oz,Mh,S9⟩
 try dsimp only at oz Mh S9
 refine aZ (l':=[(0,.slice A l.length c),(2,pV b1 0),(3,iV 0),(18,.slice A l.length c),(19,iV ((l.length:Nat):Int)),(20,iV ((k1:Nat):Int))]) rP (aH (ay ?_));by_cases h12:((k1:Nat):Int)< ((l.length:Nat):Int)
 ·refine zN 10 ?_;obtain ⟨x,hx⟩: ∃ x,l[k1]? =some x:=⟨_,List.getElem?_eq_getElem oQ⟩;obtain ⟨ab_,ao_,hAb⟩:=yO BO S9 (memT 1 rfl dX) oQ;refine zQ ?_;refine vv (v:=pV ab_ (ao_+k1*11)) (aR rfl rfl rfl (gB k1 hAb Tryz.underlying23 kQ oQ oQ)) ?_;refine vv (v:= .agg #[iV x.kd,iV x.nd,iV x.qu,iV x.at_,iV x.kp,iV x.ek,iV x.ep,iV x.ei,iV x.eb,iV x.eh,iV x.en]) (aj rfl rfl (cZ (cs:=Ac.cells x) (λj u hu=>by rw [Nat.add_assoc];exact jw BO hAb S9 (memT 1 rfl dX) (aW (enc:=Ac.cells) (sz:=11) (k:=k1) (λ_=>rfl) hx hu)))) ?_;refine gq S9 ahW ?_;intro b13 JO iG;refine sa 0 iG kQ ?_;intro w16 kP;refine zN 5 ?_;refine cab eQ kP (Rn x _) ?_;intro MX mq;refine zN 6 ?_;by_cases h21:bY x=0
  ·refine zN 8 ?_;refine vv (v:=iV ((k1+1:Nat):Int)) fJ ?_;refine zN 2 ?_;have iX:=mq.aP [0];refine aM (k1+1) ?_ rP (by first | omega | (dsimp only;omega));exact ⟨oQ,(by rw [Mh];exact asw hx h21),iX⟩
  refine zN 8 ?_;refine sa 1 mq kQ ?_;intro H9 iP;refine zN 10 ?_;have jE:=iP.aP [1,0];have hsf:CS l=bY x:=by rw [Qt oQ,Mh];exact alZ hx h21
  refine ⟨λ_=>⟨by rw [hsf];rfl,jE⟩,λh=>?_⟩;rw [hsf] at h;exact absurd h (by first | decide | assumption)
 refine zN 12 ?_;have avD:CS l=0:=by rw [Qt oQ,Mh,List.drop_eq_nil_of_le oQ];rfl
 obtain ⟨aGI,hall⟩:=al0 avD;refine dF eQ (Vq S9 hu) ?_;rintro _ MW ⟨K,rfl,aEg⟩;refine ⟨_,rfl,?_⟩;have aed:Wd K B w0 MW ((.blk b1 #[iV 0,.bool false,.bool false,.bool false,.bool false,.bool false,iV 0,iV 0,iV 0,iV 0,iV 0,iV 0,iV 0,iV 0,.slice none 0 0,.slice none 0 0,.slice none 0 0,iV 0] 35)::fs) mD []:=aEg;have qy:=Wd.top aed;obtain ⟨kw,bU⟩: ∃ b,K.wb=b:=⟨_,rfl⟩;obtain ⟨n,hn0⟩: ∃ n,n=0:=⟨_,rfl⟩;have hn:n<5:=oQ;obtain ⟨kn,hkn⟩: ∃ b,K.nb n=b:=⟨_,rfl⟩;rw [bU];refine zN 12 ?_;refine dN (X:=Nat×Cl) (λxv=>[(2,pV b1 0),(3,iV 0),(7,pV kw 0),(32,.slice A l.length c),(33,iV ((l.length:Nat):Int)),(34,iV ((xv.1:Nat):Int))]) (λxv wr=>(Wd K B w0 wr ((.blk b1 #[iV 0,.bool false,.bool false,.bool false,.bool false,.bool false,iV 0,iV 0,iV 0,iV 0,iV 0,iV 0,iV 0,iV 0,.slice none 0 0,.slice none 0 0,.slice none 0 0,iV 0] 35)::fs) xv.2 [])/\(xv.2=mD.run (l.take xv.1))/\(Bs xv.2 xv.1)/\(ShN xv.2)/\(xv.1<=l.length)/\St B w0 wr ((.blk b1 #[iV 0,.bool false,.bool false,.bool false,.bool false,.bool false,iV 0,iV 0,iV 0,iV 0,iV 0,iV 0,iV 0,iV 0,.slice none 0 0,.slice none 0 0,.slice none 0 0,iV 0] 35)::fs)) (λxv=>l.length-xv.1) (0,mD) ?_ ?_ ?_
 ·exact ⟨aed,rfl,ao4,λ_ _=>Int.le_refl _,Nat.zero_le _,Wd.top aed⟩
 ·exact rP
 rintro ⟨k2,mm⟩ w29 ⟨acG,EZ,yc,Sn,ape,Cj⟩
 try dsimp only at acG EZ yc Sn ape Cj
 refine aZ (l':=[(2,pV b1 0),(3,iV 0),(7,pV kw 0),(32,.slice A l.length c),(33,iV ((l.length:Nat):Int)),(34,iV ((k2:Nat):Int))]) rP ?_;obtain ⟨R3,G3,Ws⟩:=acG.open hn;have Ui:=G3.kr n hn;obtain ⟨X3,CQ⟩: ∃ X,mm.ah n=X:=⟨_,rfl⟩;obtain ⟨z3,hz3⟩: ∃ z,R3.nx n=z:=⟨_,rfl⟩;rw [CQ,hz3] at Ws Ui;obtain ⟨rr3,JC⟩: ∃ r,gy K R3 mm fs n=r:=⟨_,rfl⟩;have avE: ∀ f∈fs,f∈rr3:=λf hf=>JC▸List.mem_append_left _ hf;have nQ:St B w0 w29 (cN kn n X3 z3 z3.pv (cF kw R3 mm ((.blk b1 #[iV 0,.bool false,.bool false,.bool false,.bool false,.bool false,iV 0,iV 0,iV 0,iV 0,iV 0,iV 0,iV 0,iV 0,.slice none 0 0,.slice none 0 0,.slice none 0 0,iV 0] 35)::rr3))):=by rw [<-JC];subst hkn;subst bU;exact Ws
 clear Ws;refine zN 2 ?_;by_cases h37:((k2:Nat):Int)< ((l.length:Nat):Int)
 ·refine zN 10 ?_;obtain ⟨x,hx⟩: ∃ x,l[k2]? =some x:=⟨_,List.getElem?_eq_getElem oQ⟩;obtain ⟨ab_,ao_,hAb⟩:=yO BO nQ (memT 8 rfl avE) oQ;have hxa:=RI (hall x (List.mem_of_getElem? hx));refine zQ ?_;refine vv (v:=pV ab_ (ao_+k2*11)) (aR rfl rfl rfl (gB k2 hAb Tryz.underlying23 kQ oQ oQ)) ?_;refine vv (v:= .agg #[iV x.kd,iV x.nd,iV x.qu,iV x.at_,iV x.kp,iV x.ek,iV x.ep,iV x.ei,iV x.eb,iV x.eh,iV x.en]) (aj rfl rfl (cZ (cs:=Ac.cells x) (λj u hu=>by rw [Nat.add_assoc];exact jw BO hAb nQ (memT 8 rfl avE) (aW (enc:=Ac.cells) (sz:=11) (k:=k2) (λ_=>rfl) hx hu)))) ?_;refine gq nQ ahW ?_;intro b38 w39 rY;refine sa 0 rY kQ ?_;intro w41 wo;refine zN 5 ?_;have tT:=wo.aP [0];have aEh:=Wd.dL (m:=mm) (m':=mm) (H:=[]) (H':=[]) (fs:=(.blk b1 #[iV 0,.bool false,.bool false,.bool false,.bool false,.bool false,iV 0,iV 0,iV 0,iV 0,iV 0,iV 0,iV 0,iV 0,.slice none 0 0,.slice none 0 0,.slice none 0 0,iV 0] 35)::fs) (X':=X3) (z':=z3) (Ls:=[]) (fA:=R3.fA) (fc:=R3.fc) (fx:=R3.fx) (sA:=R3.sA) (sc:=R3.sc) (tA:=R3.tA) (tc:=R3.tc) (rr:=(.blk b1 #[iV 0,.bool false,.bool false,.bool false,.bool false,.bool false,iV 0,iV 0,iV 0,iV 0,iV 0,iV 0,iV 0,iV 0,.slice none 0 0,.slice none 0 0,.slice none 0 0,iV 0] 35)::rr3) hkn bU (by rw [<-JC];rfl) G3 hn tT Ui.more (λu hu=> .inl hu) (aF CQ).symm G3.fly.symm mI;refine dF eQ (ahH (n:=x.nd.toNat) (q:=x.qu.toNat) (by have:=hxa.nd;omega) (by have:=hxa.qu;omega) (by have:=hxa.nd;omega) (by have:=hxa.qu;omega) rfl bU hu aEh yc oQ hxa Sn) ?_;rintro _ VW ⟨rfl,apl⟩;refine ⟨_,rfl,?_⟩;have yg:=Wd.top apl;refine zN 4 ?_;refine vv (v:=iV ((k2+1:Nat):Int)) fJ ?_;refine zN 2 ?_;refine aM (k2+1,mm.act x) ?_ rP (by first | omega | (dsimp only;omega));exact ⟨apl,(by dsimp only;rw [al1 hx,ahJ,<-EZ]),(by dsimp only;exact yE yc hxa oQ),(by dsimp only;exact ShN.act Sn),uQ,(Wd.top apl)⟩
 refine zN 11 ?_;have hmm:mm=mD.run l:=by rw [EZ,List.take_of_length_le oQ]
 have qN:=yc;obtain ⟨R,G,S0⟩:=acG.open hn;have NG:=G.kr n hn;obtain ⟨X,hX⟩: ∃ X,mm.ah n=X:=⟨_,rfl⟩;obtain ⟨z,hz⟩: ∃ z,R.nx n=z:=⟨_,rfl⟩;rw [hX,hz] at S0 NG;obtain ⟨rr,hrr⟩: ∃ r,gy K R mm fs n=r:=⟨_,rfl⟩;have hfr: ∀ f∈fs,f∈rr:=λf hf=>hrr▸List.mem_append_left _ hf;have vO:St B w0 w29 (cN kn n X z z.pv (cF kw R mm ((.blk b1 #[iV 0,.bool false,.bool false,.bool false,.bool false,.bool false,iV 0,iV 0,iV 0,iV 0,iV 0,iV 0,iV 0,iV 0,.slice none 0 0,.slice none 0 0,.slice none 0 0,iV 0] 35)::rr))):=by rw [<-hrr];subst hkn;subst bU;exact S0
 clear S0;have hcl:=qN.calls;have hfl:R.fx.length=mm.fly.length:=by rw [<-G.fly,List.length_map]
 refine zN 4 ?_;refine vv (v:= .agg (nN 0 (λ_=>false) (⟨⟨0,0⟩,⟨0,0⟩,⟨0,0⟩,⟨0,0⟩⟩:Dir) (.slice none 0 0) (.slice R.sA mm.aQ.length R.sc) (.slice R.tA mm.bH.length R.tc) mm.calls)) (aj rfl rfl (cZ (cs:=(nN 0 (λ_=>false) (⟨⟨0,0⟩,⟨0,0⟩,⟨0,0⟩,⟨0,0⟩⟩:Dir) (.slice none 0 0) (.slice R.sA mm.aQ.length R.sc) (.slice R.tA mm.bH.length R.tc) mm.calls).toList) (St.rg 3 vO rfl al3))) ?_;refine gq vO ahV ?_;intro M8 VK uX;refine stA 0 uX kQ ?_ (h1:=by exact anB (fl:=0) (U:=(λ_=>false)) (d:=(⟨⟨0,0⟩,⟨0,0⟩,⟨0,0⟩,⟨0,0⟩⟩:Dir)) (bv:= .slice none 0 0) (sv:= .slice R.sA mm.aQ.length R.sc) (tv:= .slice R.tA mm.bH.length R.tc) (calls:=mm.calls) rfl rfl rfl);intro w52 zP;refine zN 2 ?_;have l7:=zP.eG [4,1];refine zQ ?_;have uY:=l7.drew;refine aN 13 uY [0] ?_;refine aL 3 ?_;refine ak (v:= .slice R.fA R.fx.length R.fc) 3 rfl (St.del 0 uY) (λ_ aa4=>(aj rfl rfl (aC (St.cl 0 aa4 rfl Sk)))) ?_;refine aL 4 ?_;refine ak (v:= .agg ((mm.off.cells).toArray)) 8 rfl (St.del 0 uY) (λ_ aaZ=>(aj rfl rfl (cZ (cs:=(mm.off.cells)) (St.rg 0 aaZ rfl (yC))))) ?_;refine cO ?_;refine aU 10 ?_;refine snz 10 rfl 0 uY kQ ?_ (hs:=by exact aEd);intro VL uD;refine aL 2 ?_;refine aU 12 ?_;refine snz 12 rfl 0 uD kQ ?_ (h1:=vS _) (hs:=by exact aEe);intro w69 uh;refine aL 2 ?_;refine zN 3 ?_;obtain ⟨ab,ao,qM⟩:=Cv G.arr uh (memT 9 rfl λf hf=>hrr▸List.mem_append_right _ (List.mem_append_right _ hf));refine zN 4 ?_;refine vv (v:= .slice R.nA 5 R.nc) (aj rfl rfl (aC (St.cl 1 uh rfl AV))) ?_;refine zN 5 ?_;have lu:=uh.eG [7,7,7,4,7,7,7];have Bb:=St.shut (gs:=[.blk M8 (nN R.fx.length (λ_=>false) mm.off (.slice none 0 0) (.slice R.sA mm.aQ.length R.sc) (.slice R.tA mm.bH.length R.tc) mm.calls) 35,.blk b1 #[iV 0,.bool false,.bool false,.bool false,.bool false,.bool false,iV 0,iV 0,iV 0,iV 0,iV 0,iV 0,iV 0,iV 0,.slice none 0 0,.slice none 0 0,.slice none 0 0,iV 0] 35]) hn (by subst hkn;subst bU;rw [hX,hz,show gy K R mm fs n=rr from hrr];exact lu);have tY:=Bb.nil 58 1;obtain ⟨LC,hLC⟩: ∃ f,f=kY K R mm:=⟨_,rfl⟩;obtain ⟨LF,hLF⟩: ∃ f,f=fs++LC:=⟨_,rfl⟩;rw [<-hLC,<-hLF] at tY;refine dN (X:=Nat×(Nat->Bool)×(List (Nat×List BX))×(Option Addr)×Nat×(List Fact)) (λxv=>[(2,pV b1 0),(3,iV 0),(10,pV M8 0),(60,.slice R.nA 5 R.nc),(61,iV 5),(62,iV ((xv.1:Nat):Int))]) (λxv wr=>(xv.1<=5)/\(xv.2.2.1.length=xv.1)/\(∀ j p,xv.2.2.1[j]? =some p->P1 (xv.2.2.2.2.2++LC) mm j p)/\(∀ j,j<xv.1->xv.2.1 j=(mm.ah j).up)/\St B w0 wr ((.own 58 1 (.slice xv.2.2.2.1 xv.2.2.1.length xv.2.2.2.2.1) xv.2.2.1.length ((xv.2.2.1).flatMap iB))::(.blk M8 (nN R.fx.length xv.2.1 mm.off (.slice xv.2.2.2.1 xv.2.2.1.length xv.2.2.2.2.1) (.slice R.sA mm.aQ.length R.sc) (.slice R.tA mm.bH.length R.tc) mm.calls) 35)::(.blk b1 #[iV 0,.bool false,.bool false,.bool false,.bool false,.bool false,iV 0,iV 0,iV 0,iV 0,iV 0,iV 0,iV 0,iV 0,.slice none 0 0,.slice none 0 0,.slice none 0 0,iV 0] 35)::(xv.2.2.2.2.2++LF))) (λxv=>5-xv.1) (0,(λ_=>false),[],none,0,[]) ?_ ?_ ?_
 ·exact ⟨Nat.zero_le _,rfl,(λj p hp=>by simp at hp),(λj hj=>absurd hj (Nat.not_lt_zero _)),tY⟩
 ·exact rP
 rintro ⟨k,U9,ps,OA,oc,N9⟩ w74 ⟨avF,adF,aiI,aiJ,Ew⟩
 try dsimp only at avF adF aiI aiJ Ew
 refine aZ (l':=[(2,pV b1 0),(3,iV 0),(10,pV M8 0),(60,.slice R.nA 5 R.nc),(61,iV 5),(62,iV ((k:Nat):Int))]) rP ?_;have hk5:k<=5:=avF;refine zN 2 ?_;by_cases h80:((k:Nat):Int)<5
 ·refine zN 10 ?_;have hk4:k<5:=oQ;have S9:=St.aEf (n:=k) (gs:=[.own 58 1 (.slice OA ps.length oc) ps.length ((ps).flatMap iB),.blk M8 (nN R.fx.length U9 mm.off (.slice OA ps.length oc) (.slice R.sA mm.aQ.length R.sc) (.slice R.tA mm.bH.length R.tc) mm.calls) 35,.blk b1 #[iV 0,.bool false,.bool false,.bool false,.bool false,.bool false,iV 0,iV 0,iV 0,iV 0,iV 0,iV 0,iV 0,iV 0,.slice none 0 0,.slice none 0 0,.slice none 0 0,iV 0] 35]) (N:=N9) (fs:=fs) hk4 (by rw [<-hLC,<-hLF];exact Ew);obtain ⟨X3,CQ⟩: ∃ X,mm.ah k=X:=⟨_,rfl⟩;obtain ⟨z3,hz3⟩: ∃ z,R.nx k=z:=⟨_,rfl⟩;obtain ⟨knk,aiK⟩: ∃ b,K.nb k=b:=⟨_,rfl⟩;obtain ⟨rk,NU⟩: ∃ r,fs++(lT K R mm k++R.L)=r:=⟨_,rfl⟩;have Ui:=G.kr k hk4;rw [CQ,hz3] at S9 Ui;rw [NU] at S9;have hLk: ∀ f∈R.L,f∈rk:=λf hf=>NU▸List.mem_append_right _ (List.mem_append_right _ hf);have tV:St B w0 w74 (cN knk k X3 z3 z3.pv (cF kw R mm ((.own 58 1 (.slice OA ps.length oc) ps.length ((ps).flatMap iB))::(.blk M8 (nN R.fx.length U9 mm.off (.slice OA ps.length oc) (.slice R.sA mm.aQ.length R.sc) (.slice R.tA mm.bH.length R.tc) mm.calls) 35)::(.blk b1 #[iV 0,.bool false,.bool false,.bool false,.bool false,.bool false,iV 0,iV 0,iV 0,iV 0,iV 0,iV 0,iV 0,iV 0,.slice none 0 0,.slice none 0 0,.slice none 0 0,iV 0] 35)::(N9++rk)))):=by subst aiK;subst bU;exact S9
  clear S9;refine zN 2 ?_;refine vv (v:=pV ab (ao+k*1)) (aR rfl rfl rfl (gB k qM Tryz.underlying98 kQ oQ oQ)) ?_;refine vv (v:=pV knk 0) (aj rfl rfl (aC (aiK▸vT (qM▸G.arr) hk4 tV (memT 10 rfl λf hf=>List.mem_append_right _ (hLk f hf))))) ?_;refine zN 12 ?_;refine vv (v:=pV M8 (1+k*1)) (aR rfl rfl rfl (fH k Tryz.underlying25 kQ rfl hk4)) ?_;refine FM (cs:= #[.bool X3.up]) (row':=nN R.fx.length (upd U9 k X3.up) mm.off (.slice OA ps.length oc) (.slice R.sA mm.aQ.length R.sc) (.slice R.tA mm.bH.length R.tc) mm.calls) (fs':=(_::_::_::_::_::_::_::_::(.blk M8 (nN R.fx.length (upd U9 k X3.up) mm.off (.slice OA ps.length oc) (.slice R.sA mm.aQ.length R.sc) (.slice R.tA mm.bH.length R.tc) mm.calls) 35)::_::(N9++rk))) 8 tV (wn rfl) rfl rfl rfl rfl rfl rfl kQ rfl (bM rfl) (by show 1+k*1+1<=18;omega) (axP hk4 (v:=X3.up)) rfl ?_;intro w82 DX;refine zN 13 ?_
  rcases hup:X3.up with _ | _
  ·refine zN 4 ?_;refine vv (v:= .bool false) (OZ hup (aj rfl rfl (aC (St.cl 0 DX rfl rfl)))) ?_;refine zN 8 ?_;refine vv (aj rfl rfl (cZ (cs:=[.slice z3.tA X3.data.length z3.tc,iV X3.syn]) (St.rg 0 DX rfl (sw)))) ?_;have hrd:=(qN.kr k hk4).RN;rw [CQ] at hrd;refine dF eQ (Iy z3.tA z3.tc X3.data X3.syn _ (Ui.yD.rd DX (memT 10 rfl λf hf=>List.mem_append_right _ (hLk f hf))) hrd.1 hrd.2.2.1) ?_;rintro _ w87 ⟨A84,c85,bB,bs,hbm,hbl,hbc,rfl,T86⟩;refine ⟨_,rfl,?_⟩;have JN:=DX.ext T86 (by simp [KA,Fact.IC]);have GJ:St B w0 w87 ((oB bB bs)::(.bJ 1 A84 ((jr X3.data X3.syn).1.length) (byteCells ((jr X3.data X3.syn).1)))::(cN knk k X3 z3 z3.pv (cF kw R mm ((.own 58 1 (.slice OA ps.length oc) ps.length ((ps).flatMap iB))::(.blk M8 (nN R.fx.length (upd U9 k X3.up) mm.off (.slice OA ps.length oc) (.slice R.sA mm.aQ.length R.sc) (.slice R.tA mm.bH.length R.tc) mm.calls) 35)::(.blk b1 #[iV 0,.bool false,.bool false,.bool false,.bool false,.bool false,iV 0,iV 0,iV 0,iV 0,iV 0,iV 0,iV 0,iV 0,.slice none 0 0,.slice none 0 0,.slice none 0 0,iV 0] 35)::((N9++rk)++fB bs))))):=St.perm JN (List.Perm.cons _ (List.Perm.cons _ (List.perm_append_comm (l₁:=fB bs))));clear DX;refine zN 10 ?_;refine bsI GJ ?_;intro b90 w91 zR;refine dx (news:=[.slice (aD bB 0) 4 4]) (xs':=((ps++[(bB,bs)])).flatMap iB) 10 zR (wn rfl) rfl rfl rfl rfl rfl rfl (St.lD (xs:=[.slice (aD bB 0) 4 4]) 0 zR rfl rfl rfl) Tryz.underlying31 aeo rfl dQ (bM rfl) lQ oQ (iU (enc:=iB) rfl rfl) ?_;intro A93 c94 w95 aLx aLy D5;refine zQ ?_;refine jD 11 D5 kQ ?_ (hs:=by exact anC);intro w99 sI;refine zN 4 ?_;refine vv (v:=iV ((k+1:Nat):Int)) fJ ?_;refine zN 2 ?_;have wT:=sI.aP [2,0];have tu:=wT.eG [0,10,10,10,10,10,10,10,10,10,10];have qd:St B w0 w99 ((.own 58 1 (.slice A93 (ps.length+1) c94) (ps.length+1) (((ps++[(bB,bs)])).flatMap iB))::(.blk M8 (nN R.fx.length (upd U9 k X3.up) mm.off (.slice A93 (ps.length+1) c94) (.slice R.sA mm.aQ.length R.sc) (.slice R.tA mm.bH.length R.tc) mm.calls) 35)::(.blk b1 #[iV 0,.bool false,.bool false,.bool false,.bool false,.bool false,iV 0,iV 0,iV 0,iV 0,iV 0,iV 0,iV 0,iV 0,.slice none 0 0,.slice none 0 0,.slice none 0 0,iV 0] 35)::(((oB bB bs)::(fB bs++N9))++LF)):=by
    rw [hLF,hLC];exact St.anD (n:=k) (gs:=[.own 58 1 (.slice A93 (ps.length+1) c94) (ps.length+1) (((ps++[(bB,bs)])).flatMap iB),.blk M8 (nN R.fx.length (upd U9 k X3.up) mm.off (.slice A93 (ps.length+1) c94) (.slice R.sA mm.aQ.length R.sc) (.slice R.tA mm.bH.length R.tc) mm.calls) 35,.blk b1 #[iV 0,.bool false,.bool false,.bool false,.bool false,.bool false,iV 0,iV 0,iV 0,iV 0,iV 0,iV 0,iV 0,iV 0,.slice none 0 0,.slice none 0 0,.slice none 0 0,iV 0] 35,.own 57 6 (.slice (aD bB 0) 4 4) 4 ((bs).flatMap BX.cells)]) (N:=N9) (E:=fB bs) (fs:=fs) hk4 (by subst aiK;subst bU;rw [CQ,hz3];rw [<-NU] at tu;exact tu)
   have Wo:ps.length+1=(ps++[(bB,bs)]).length:=by simp
   rw [Wo] at qd;refine aM (k+1,upd U9 k X3.up,(ps++[(bB,bs)]),A93,c94,(.own 57 6 (.slice (aD bB 0) 4 4) 4 ((bs).flatMap BX.cells)::(fB bs++N9))) ?_ rP (by first | omega | (dsimp only;omega));exact ⟨uQ,(by dsimp only;rw [List.length_append,adF];rfl),(by dsimp only;exact PI adF (λj p hp=>(aiI j p hp).mono (λf hf=>(List.mem_append.1 hf).elim (λh=>List.mem_append_left _ (List.mem_cons_of_mem _ (List.mem_append_right _ h))) λh=>List.mem_append_right _ h)) (al5 hbm hbc CQ hup)),(by dsimp only;exact Uj aiJ CQ),qd⟩
  refine zN 4 ?_;refine vv (v:= .bool true) (OZ hup (aj rfl rfl (aC (St.cl 0 DX rfl rfl)))) ?_;refine zN 10 ?_;refine bsI DX ?_;intro aLz auf Dx;refine dx (news:=[.slice (aD z3.bb 0) 4 4]) (xs':=((ps++[(z3.bb,z3.bx)])).flatMap iB) 8 Dx (wn rfl) rfl rfl rfl rfl rfl rfl (St.lD (xs:=[.slice (aD z3.bb 0) 4 4]) 0 Dx rfl rfl rfl) Tryz.underlying31 aeo rfl dQ (bM rfl) lQ oQ (iU (enc:=iB) rfl rfl) ?_;intro WZ W9 WH aGJ aGK qb;refine zQ ?_;refine jD 9 qb kQ ?_ (hs:=by exact anC);intro aoe E8;refine zN 4 ?_;refine vv (v:=iV ((k+1:Nat):Int)) fJ ?_;refine zN 2 ?_;have qc:=E8.aP [0];have uH:=qc.eG [9,9,9,9,9,9,9,9,9,9];have AX:St B w0 aoe ((.own 58 1 (.slice WZ (ps.length+1) W9) (ps.length+1) (((ps++[(z3.bb,z3.bx)])).flatMap iB))::(.blk M8 (nN R.fx.length (upd U9 k X3.up) mm.off (.slice WZ (ps.length+1) W9) (.slice R.sA mm.aQ.length R.sc) (.slice R.tA mm.bH.length R.tc) mm.calls) 35)::(.blk b1 #[iV 0,.bool false,.bool false,.bool false,.bool false,.bool false,iV 0,iV 0,iV 0,iV 0,iV 0,iV 0,iV 0,iV 0,.slice none 0 0,.slice none 0 0,.slice none 0 0,iV 0] 35)::(N9++LF)):=by
   rw [hLF,hLC];exact St.anD (n:=k) (gs:=[.own 58 1 (.slice WZ (ps.length+1) W9) (ps.length+1) (((ps++[(z3.bb,z3.bx)])).flatMap iB),.blk M8 (nN R.fx.length (upd U9 k X3.up) mm.off (.slice WZ (ps.length+1) W9) (.slice R.sA mm.aQ.length R.sc) (.slice R.tA mm.bH.length R.tc) mm.calls) 35,.blk b1 #[iV 0,.bool false,.bool false,.bool false,.bool false,.bool false,iV 0,iV 0,iV 0,iV 0,iV 0,iV 0,iV 0,iV 0,.slice none 0 0,.slice none 0 0,.slice none 0 0,iV 0] 35]) (N:=N9) (E:=[]) (fs:=fs) hk4 (by subst aiK;subst bU;rw [CQ,hz3,List.append_nil];rw [<-NU] at uH;exact uH)
  have Wo:ps.length+1=(ps++[(z3.bb,z3.bx)]).length:=by simp
  rw [Wo] at AX;refine aM (k+1,upd U9 k X3.up,(ps++[(z3.bb,z3.bx)]),WZ,W9,N9) ?_ rP (by first | omega | (dsimp only;omega));exact ⟨uQ,(by dsimp only;rw [List.length_append,adF];rfl),(by dsimp only;exact PI adF (λj p hp=>(aiI j p hp).mono (λf hf=>hf)) (hLC▸al4 (G.kr k hk4) CQ hz3 hup hk4)),(by dsimp only;exact Uj aiJ CQ),AX⟩
 refine zN 13 ?_;refine stA 2 Ew kQ ?_ (h1:=by exact anB (fl:=R.fx.length) (U:=U9) (d:=mm.off) (bv:= .slice OA ps.length oc) (sv:= .slice R.sA mm.aQ.length R.sc) (tv:= .slice R.tA mm.bH.length R.tc) (calls:=mm.calls) rfl rfl rfl);intro aiw oZ;refine zN 5 ?_;have hsf:CS l=0:=avD;refine ⟨λh=>absurd hsf h,λ_=>?_⟩;have oV:=oZ.aP [2,1];have h5:k=5:=oQ;rw [hLF] at oV;refine ⟨_,[.own 58 1 (.slice OA ps.length oc) ps.length ((ps).flatMap iB)]++(N9++LC),rfl,?_,St.axQ (gs:=[.own 58 1 (.slice OA ps.length oc) ps.length ((ps).flatMap iB)]) (N:=N9) (fs:=fs) (LC:=LC) oV⟩;rw [<-hmm];exact al6 (ps:=ps) G oQ (λj hj=>aiJ j oQ) (List.mem_append_left _ (List.mem_singleton.2 rfl)) (λf hf=>List.mem_append_right _ (List.mem_append_right _ (hLC▸hf))) (λj p hp=>(aiI j p hp).mono λf hf=>List.mem_append_right _ hf)
theorem asB {B:Nat} {w0 w:World} {fs:List Fact} {A:Option Addr} {c:Nat} {l:List Ac} (h0:CS l=0) (S:St B w0 w fs) (hu:Uk B w0) (BO:Ro fs 11 A l.length (l.flatMap Ac.cells)) (hb:l.length*88<=reachBytes):
  Calls Tryz.prog 15 #[.slice A l.length c] w (λe w'=> ∃ row L,e= .returned (.tuple #[.agg row,iV 0])/\Xv L (mD.run l) row/\St B w0 w' (L++fs)):=(adE S hu BO hb).mono λ_ _ h=>h.2 h0
structure OX where
 fl:Nat
 U:Nat->Bool
 d:Dir
 BA:Option Addr
 bc:Nat
 sA:Option Addr
 sn:Nat
 sc:Nat
 tA:Option Addr
 tn:Nat
 tc:Nat
 calls:Nat
def OX.cells (x:OX):List Value:=Gs x.fl x.U x.d (.slice x.BA 5 x.bc) (.slice x.sA x.sn x.sc) (.slice x.tA x.tn x.tc) x.calls
structure Xw (L:List Fact) (m:Cl) (x:OX):Prop where
 up: ∀ j,j<5->x.U j=(m.ah j).up
 d:x.d=m.off
 fl:x.fl=m.fly.length
 sn:x.sn=m.aQ.length
 tn:x.tn=m.bH.length
 calls:x.calls=m.calls
 ps: ∃ ps:List (Nat×List BX),ps.length=5/\Ro L 1 x.BA 5 (ps.flatMap iB)/\ ∀ j p,ps[j]? =some p->P1 L m j p
 aQ:Ro L 14 x.sA x.sn (m.aQ.flatMap fD.cells)
 bH:Ro L 7 x.tA x.tn (m.bH.flatMap xk.cells)
theorem Xv.x {L:List Fact} {m:Cl} {row:Array Value} (h:Xv L m row): ∃ x:OX,row=x.cells.toArray/\Xw L m x:=by
 obtain ⟨U,BA,bc,sA,sc,tA,tc,ps,rfl,hU,hl,hB,hs,ht,hP⟩:=h;exact ⟨⟨m.fly.length,U,m.off,BA,bc,sA,m.aQ.length,sc,tA,m.bH.length,tc,m.calls⟩,rfl,hU,rfl,rfl,rfl,rfl,rfl,⟨ps,hl,hB,hP⟩,hs,ht⟩
theorem Xw.mono {L L':List Fact} {m:Cl} {x:OX} (h:Xw L m x) (hl: ∀ f∈L,f∈L'):Xw L' m x:=by
 obtain ⟨h1,h2,h3,h4,h5,h6,⟨ps,h7,h8,h9⟩,h10,h11⟩:=h;exact ⟨h1,h2,h3,h4,h5,h6,⟨ps,h7,h8.mono hl,λj p hj=>(h9 j p hj).mono hl⟩,h10.mono hl,h11.mono hl⟩
def aas (B:Nat) (w0:World) (fs:List Fact) (l:List Ac) (e:Ending) (w':World):Prop:= ∃ x L,e= .returned (.tuple #[.agg (OX.cells x).toArray,.bool true])/\Xw L (mD.run l) x/\St B w0 w' (L++fs)
theorem al7 {α:Type} {l:List α} (h:l.length=5): ∃ a b c d e,l=[a,b,c,d,e]:=by
 match l,h with
 | [a,b,c,d,e],_=>exact ⟨a,b,c,d,e,rfl⟩
theorem adG {B:Nat} {w0 w:World} {fs:List Fact} {A:Option Addr} {c:Nat} {l:List Ac} (h0:CS l=0) (S:St B w0 w fs) (hu:Uk B w0) (BO:Ro fs 11 A l.length (l.flatMap Ac.cells)) (hb:l.length*88<=reachBytes):
    Calls Tryz.prog 6 #[.slice A l.length c] w (aas B w0 fs l):=by
 refine gu 28 Tryz.func6 ?_;refine cw [0] ?_;refine zN 2 ?_;refine gq S ahV ?_;intro b1 w2 S3;refine zN 6 ?_;refine dF eQ (asB h0 S3 hu (BO.mono (memT 1 rfl dX)) hb) ?_;rintro _ w4 ⟨aLA,L8,rfl,hO9,S5⟩;refine ⟨_,rfl,?_⟩;obtain ⟨x,rfl,hX⟩:=Xv.x hO9;obtain ⟨ps,hpl,Nb,hP⟩:=hX.ps;obtain ⟨p0,p1,p2,p3,p4,rfl⟩:=al7 hpl;have S6:=S5.perm (List.perm_middle (a:= .blk b1 #[iV 0,.bool false,.bool false,.bool false,.bool false,.bool false,iV 0,iV 0,iV 0,iV 0,iV 0,iV 0,iV 0,iV 0,.slice none 0 0,.slice none 0 0,.slice none 0 0,iV 0] 35) (l₁:=L8) (l₂:=fs));have yT: ∀ f∈L8,f∈L8++fs:=λf h=>List.mem_append_left _ h;obtain ⟨bA,oA,hBa⟩:=yO Nb S6 (memT 1 rfl yT) dQ;refine zN 3 ?_;refine gq S6 ahV ?_;intro b10 GI l5;refine stA 0 l5 kQ ?_;intro Ey kD;refine zN 4 ?_;have iG:=kD.drew;refine aN 19 iG [1] ?_;refine aL 12 ?_;refine Eo (v:= .pointer (some ⟨bA,oA+0*1,none⟩)) (i:=12) (n:=6) rfl kQ kQ kQ (St.del 1 iG) rfl (wg rfl rfl rfl rfl) rfl rfl (λ_ _=>(aR rfl rfl rfl (gB 0 hBa Tryz.underlying31 kQ dQ dQ))) ?_;refine Eo (v:= .slice (some ⟨p0.1,0,none⟩) 4 4) (i:=13) (n:=5) rfl kQ kQ kQ (St.del 1 iG) rfl (wg rfl rfl rfl rfl) rfl rfl (λ_ acI=>(aj rfl rfl (aC (jw Nb hBa acI (memT 1 rfl yT) rfl)))) ?_;refine aL 3 ?_;refine aU 17 ?_;refine snA 17 rfl 1 iG kQ ?_;intro ZA qo;refine aL 3 ?_;refine zN 3 ?_;have nQ:=qo.aP [1,0];exact ⟨x,L8,rfl,hX,nQ⟩
def vI (q:Nat) (l:List fD):List fD:=l.filter λs=>decide (s.q=q)
section
variable {l:List fD} {i q:Nat} {s:fD}
theorem ahK (h:l[i]? =some s) (hq:(s.q:Int)=(q:Int)):vI q (l.take i)++[s]=vI q (l.take (i+1)):=by
 unfold vI;rw [List.take_add_one,h,List.filter_append];have:s.q=q:=oQ;simp [this]
theorem al8 (h:l[i]? =some s) (hq: ¬ (s.q:Int)=(q:Int)):vI q (l.take i)=vI q (l.take (i+1)):=by
 unfold vI;rw [List.take_add_one,h,List.filter_append];have: ¬ s.q=q:=oQ;simp [this]
end
theorem Mw {x:OX} {sA:Option Addr} {sn sc q:Nat} {l:List fD} {w:World} (h:Rd w w.heap.size 14 sA sn (l.flatMap fD.cells)) (hn:sn<=1000000000):
    Calls Tryz.prog 13 #[.agg #[.int .i64 ((x.fl:Nat):Int),.bool (x.U 0),.bool (x.U 1),.bool (x.U 2),.bool (x.U 3),.bool (x.U 4),.int .i64 x.d.p0.node,.int .i64 x.d.p0.epoch,.int .i64 x.d.p1.node,.int .i64 x.d.p1.epoch,.int .i64 x.d.p2.node,.int .i64 x.d.p2.epoch,.int .i64 x.d.p3.node,.int .i64 x.d.p3.epoch,.slice x.BA 5 x.bc,.slice sA sn sc,.slice x.tA x.tn x.tc,.int .i64 ((x.calls:Nat):Int)],.int .i64 ((q:Nat):Int)] w (λe w'=> ∃ A' c',e= .returned (.slice A' (vI q l).length c')/\St w.heap.size w w' [.own 69 14 (.slice A' (vI q l).length c') (vI q l).length ((vI q l).flatMap fD.cells)]):=by
 have S:=(St.start w).bL h;refine gu 31 Tryz.func13 ?_;refine cw [0,1] ?_;refine zN 2 ?_;refine iH S ?_;intro b1 w2 S3;refine zN 15 ?_;have S4:=S3.nil 69 14;change St _ _ _ [.own 69 14 (.slice none 0 0) 0 ((([]:List fD)).flatMap fD.cells),_,_] at S4;refine dN (X:=Nat×Nat×(Option Addr)×Nat×(List fD)) (λxv=>[(1,.int .i64 ((q:Nat):Int)),(2,.pointer (some ⟨b1,0,none⟩)),(4,.slice none 0 0),(5,.slice xv.2.2.1 xv.2.1 xv.2.2.2.1),(6,.int .i64 ((xv.1:Nat):Int))]) (λxv wr=>(xv.1<=sn)/\(xv.2.1<=xv.1)/\(xv.2.2.2.2=vI q (l.take xv.1))/\St w.heap.size w wr [.own 69 14 (.slice xv.2.2.1 xv.2.1 xv.2.2.2.1) xv.2.1 ((xv.2.2.2.2).flatMap fD.cells),.blk b1 #[.int .i64 ((x.fl:Nat):Int),.bool (x.U 0),.bool (x.U 1),.bool (x.U 2),.bool (x.U 3),.bool (x.U 4),.int .i64 x.d.p0.node,.int .i64 x.d.p0.epoch,.int .i64 x.d.p1.node,.int .i64 x.d.p1.epoch,.int .i64 x.d.p2.node,.int .i64 x.d.p2.epoch,.int .i64 x.d.p3.node,.int .i64 x.d.p3.epoch,.slice x.BA 5 x.bc,.slice sA sn sc,.slice x.tA x.tn x.tc,.int .i64 ((x.calls:Nat):Int)] 35,.rd 14 sA sn ((l).flatMap fD.cells)]) (λxv=>sn-xv.1) (0,0,none,0,[]) ?_ ?_ ?_
 ·exact ⟨Nat.zero_le _,Nat.zero_le _,rfl,S4⟩
 ·exact vJ
 rintro ⟨i,k,Ab,cb,ys⟩ w5 ⟨Aw,G6,hi9,S6⟩
 try dsimp only at Aw G6 hi9 S6
 refine aZ (l':=[(1,.int .i64 ((q:Nat):Int)),(2,.pointer (some ⟨b1,0,none⟩)),(4,.slice none 0 0),(5,.slice Ab k cb),(6,.int .i64 ((i:Nat):Int))]) vJ (aH (aH (ay (vm ?_))));refine zN 3 ?_;by_cases h10:((i:Nat):Int)< ((sn:Nat):Int)
 ·refine zN 13 ?_;obtain ⟨b11,o12,rfl⟩:=Rd.addr (St.rd 2 S6 rfl) oQ;obtain ⟨vW,aiL⟩:=DT i (St.rd 2 S6 rfl) oQ;refine vv (v:= .pointer (some ⟨b11,o12+i*14,none⟩)) (aR rfl rfl rfl (lF i Tryz.underlying32 kQ oQ oQ)) ?_;refine vv (oG (o12+i*14+1) fQ) ?_;refine vv (aj rfl rfl (aC (Rd.KU (i:=1) (St.rd 2 S6 rfl) (aW (enc:=fD.cells) (sz:=14) (λ_=>rfl) aiL rfl)))) ?_;refine zQ ?_;by_cases h15:((vW.q:Nat):Int)=((q:Nat):Int)
  ·refine zN 9 ?_;refine vv (v:= .pointer (some ⟨b11,o12+i*14,none⟩)) (aR rfl rfl rfl (lF i Tryz.underlying32 kQ oQ oQ)) ?_;refine vv (aj rfl rfl (cZ (cs:=fD.cells vW) (Rd.uq (St.rd 2 S6 rfl) (λ_ _ h=>aW (enc:=fD.cells) (sz:=14) (λ_=>rfl) aiL h)))) ?_;refine NY S6 ?_;intro b16 Lb jc;refine dx (news:=[.int .i64 ((vW.nd:Nat):Int),.int .i64 ((vW.q:Nat):Int),.int .i64 vW.ep,.int .i64 vW.op.kind,.int .i64 vW.op.producer,.int .i64 vW.op.id,.int .i64 vW.op.body,.int .i64 vW.op.aG,.int .i64 vW.op.hno,.int .i64 vW.ans.code,.int .i64 vW.ans.eF,.int .i64 vW.ans.hno,.int .i64 vW.ans.body,.int .i64 vW.num]) (xs':=(ys++[vW]).flatMap fD.cells) 1 jc (wn rfl) rfl rfl rfl rfl rfl rfl (St.lD (xs:=[.int .i64 ((vW.nd:Nat):Int),.int .i64 ((vW.q:Nat):Int),.int .i64 vW.ep,.int .i64 vW.op.kind,.int .i64 vW.op.producer,.int .i64 vW.op.id,.int .i64 vW.op.body,.int .i64 vW.op.aG,.int .i64 vW.op.hno,.int .i64 vW.ans.code,.int .i64 vW.ans.eF,.int .i64 vW.ans.hno,.int .i64 vW.ans.body,.int .i64 vW.num]) 0 jc rfl rfl rfl) Tryz.underlying32 aer rfl dQ (bM rfl) lQ oQ (iU (enc:=fD.cells) rfl rfl) ?_;intro A19 c20 DW aLB aLC iX;refine zN 6 ?_;refine vv (v:= .int .i64 ((i+1:Nat):Int)) fJ ?_;refine zN 2 ?_;have jE:=iX.aP [0];refine aM (i+1,k+1,A19,c20,ys++[vW]) ?_ vJ (by first | omega | (dsimp only;omega));exact ⟨uQ,uQ,(by dsimp only;rw [hi9];exact ahK aiL h15),jE⟩
  refine zN 9 ?_;refine vv (v:= .int .i64 ((i+1:Nat):Int)) fJ ?_;refine zN 2 ?_;refine aM (i+1,k,Ab,cb,ys) ?_ vJ (by first | omega | (dsimp only;omega));exact ⟨uQ,uQ,(by dsimp only;rw [hi9];exact al8 aiL h15),S6⟩
 refine zN 17 ?_;obtain rfl:i=sn:=oQ;have hll:=h.1;rw [gL (sz:=14) (λ_=>rfl)] at hll;have hys:=(S6.own 0 rfl).1;rw [gL (sz:=14) (λ_=>rfl)] at hys;obtain rfl:k=ys.length:=oQ;have hyl:=hi9;rw [List.take_of_length_le oQ] at hyl;subst hyl;have l6:=S6.aP [2,1];exact ⟨Ab,cb,rfl,l6⟩
theorem anF {w:World} {sA:Option Addr} {sn sc q:Nat} {l sv:List fD} {fl:Nat} {U:Nat->Bool} {d:Dir} {BA tA:Option Addr} {bc tn tc calls:Nat} (hv:vI q l=sv) (h:Rd w w.heap.size 14 sA sn (l.flatMap fD.cells)) (hn:sn<=1000000000):
  Calls Tryz.prog 13 #[.agg (nN fl U d (.slice BA 5 bc) (.slice sA sn sc) (.slice tA tn tc) calls),.int .i64 ((q:Nat):Int)] w (λe w'=> ∃ A' c',e= .returned (.slice A' sv.length c')/\St w.heap.size w w' [.own 69 14 (.slice A' sv.length c') sv.length (sv.flatMap fD.cells)]):=by
 subst hv;exact Mw (x:=⟨fl,U,d,BA,bc,sA,sn,sc,tA,tn,tc,calls⟩) h hn
theorem Qu {y:Qd}: ∀ {l:List fD} {Q:Qd},Q.ready.length+Q.aA.length<=501->rp Q l=some y->y.ready.length+y.aA.length<=501
 | [],Q,hq,h=>by
  obtain rfl:=Option.some.inj h;exact hq
 | s::l,Q,hq,h=>by
  rw [rp] at h
  split at h
  ·rename_i hc
   exact Qu (Ol hc.1) h
  cases h
theorem PK {A:Option Addr} {c:Nat} {l:List Ev} {Y:Qd} {an:List iM} {w:World} (ht:av l=(Y,an,0)) (hl:l.length<=2000) (h:Rd w w.heap.size 6 A l.length (bg l)):
  Calls Tryz.prog 11 #[.slice A l.length c] w (λe w'=> ∃ A1 c1 A2 c2,e= .returned (.tuple #[.agg (bI Y.ep Y.nx Y.gv (.slice A1 Y.ready.length c1) (.slice A2 Y.aA.length c2) Y.ws),.int .i64 0])/\St w.heap.size w w' [.bJ 2 A1 Y.ready.length (Y.ready.flatMap eH.cells),.bJ 4 A2 Y.aA.length (Y.aA.flatMap Ls.cells)]):=by
 have h:=zS A c l w h oQ;rw [ht] at h;exact h
theorem Ul {gs:List Gr} {A:Option Addr} {c m:Nat} {cr:Bool} {s:List Ac} (hs:s=cK gs m cr) (hm:m<=1000) (hg: ∀ g∈gs,g.ok) (w:World) (h:Rd w w.heap.size 5 A gs.length (gs.flatMap Gr.cells)):
  Calls Tryz.prog 5 #[.slice A gs.length c,.int .i64 ((m:Nat):Int),.bool cr] w (λe w'=> ∃ A' c',e= .returned (.slice A' s.length c')/\St w.heap.size w w' [.own 71 11 (.slice A' s.length c') s.length (s.flatMap Ac.cells)]):=by
 subst hs;exact RH hm hg w h
theorem adH {l:List Ac} (h: ∀ a∈l,bY a=0) (hl:l.length<=100000):CS l=0:=by
 rw [Qt oQ];clear hl
 induction l with
 | nil=>rfl
 | cons a l ih=>rw [vZ,if_neg (by rw [h a List.mem_cons_self];simp),ih λx hx=>h x (List.mem_cons_of_mem _ hx)]
theorem afC {s F:List Ac} {A:Option Addr} {c r:Nat} (hF:F=kE s r) (hr:r<=100000) (hl:s.length<=100000) (w:World) (h:Rd w w.heap.size 11 A s.length (s.flatMap Ac.cells)):
  Calls Tryz.prog 7 #[.slice A s.length c,.int .i64 ((r:Nat):Int)] w (λe w'=> ∃ A' c',e= .returned (.slice A' F.length c')/\St w.heap.size w w' [.own 71 11 (.slice A' F.length c') F.length (F.flatMap Ac.cells)]):=by
 subst hF;exact YE hr hl w h
theorem anG {B:Nat} {w0 w:World} {fs:List Fact} {A:Option Addr} {c:Nat} {F:List Ac} (h0: ∀ a∈F,bY a=0) (hl:F.length<=100000) (S:St B w0 w fs) (hu:Uk B w0) (BO:Ro fs 11 A F.length (F.flatMap Ac.cells)):
  Calls Tryz.prog 6 #[.slice A F.length c] w (aas B w0 fs F):=adG (adH h0 hl) S hu BO hQ
def svB (b:bn):Bool:=decide (b.role=1\/b.role=2)
theorem afD {b:bn}:svB b=true↔serves b:=by unfold svB serves;simp
theorem RO {L:List Fact} {m:Cl} {j q:Nat} {p:Nat×List BX} (h:P1 L m j p) (hq:q<4): ∃ y,p.2[q]? =some y/\y.b=(m.ah j).view q:=by
 have hb:=h.bm;have hv:(vB (m.ah j).view)[q]? =some ((m.ah j).view q):=by
  have h4:q=0\/q=1\/q=2\/q=3:=oQ
  rcases h4 with rfl | rfl | rfl | rfl<;>rfl
 rw [<-hb,List.getElem?_map] at hv
 cases h1:p.2[q]? with
 | none=>rw [h1] at hv;cases hv
 | some y=>rw [h1] at hv;exact ⟨y,rfl,Option.some.inj hv⟩
theorem zZ (y:BX) (w:World):
    Calls tP 17 #[.agg (bR y.b y.A y.c)] w (λe w'=>e= .returned (.bool (svB y.b))/\Below w.heap.size w w'):=by
 have S:=St.start w;refine Hq (N:=11) (vs:=[.agg (bR y.b y.A y.c)]) Tryz.func17 rfl rfl rfl ?_;refine cw [0] ?_;refine azn (nb (row:=(bR y.b y.A y.c)) S ?_);intro b1 w2 S3;clear S;refine va ?_;refine qk [1,2] ?_;refine Ww (vv (oG 0 NW) ?_);refine vv (aj rfl rfl (aC (St.cl 0 S3 rfl rfl))) ?_;by_cases h4:y.b.role=1
 ·refine vv (amk h4) ?_;refine vm ?_;iterate 3 refine vs ?_
  refine vv ypT ?_;refine va ?_;refine qk [2] ?_;refine anL (pt ?_);rw [show svB y.b=true from by unfold svB;first | exact decide_eq_true oQ | exact decide_eq_false oQ];exact ⟨rfl,S3.low⟩
 refine vv (adV h4) ?_;refine vm ?_;refine vg (oG 0 NW) ?_;refine vg (aj rfl rfl (aC (St.cl 0 S3 rfl rfl))) ?_;by_cases h5:y.b.role=2
 ·refine vg (amk h5) ?_;refine vv ypF ?_;refine va ?_;refine qk [2] ?_;refine anL (pt ?_);rw [show svB y.b=true from by unfold svB;first | exact decide_eq_true oQ | exact decide_eq_false oQ];exact ⟨rfl,S3.low⟩
 refine vg (adV h5) ?_;refine vv ypF ?_;refine va ?_;refine qk [2] ?_;refine anL (pt ?_);rw [show svB y.b=false from by unfold svB;first | exact decide_eq_true oQ | exact decide_eq_false oQ];exact ⟨rfl,S3.low⟩
def wh (b:bn):Prop:=serves b\/b.role=3
structure wm (m:Cl) (q o:Nat):Prop where
 lt:o<5
 me:wh ((m.ah o).view q)
 sj: ∀ n,n<5->n≠o->wh ((m.ah n).view q)->((m.ah n).view q).ep< ((m.ah o).view q).ep
def yU (m:Cl) (q o n:Nat) (a:Int) (one:Bool):Prop:=(a= -1/\ ∀ j,j<n-> ¬ wh ((m.ah j).view q))\/ ∃ k:Nat,a=((k:Nat):Int)/\k<n/\wh ((m.ah k).view q)/\(∀ j,j<n->wh ((m.ah j).view q)->((m.ah j).view q).ep<=((m.ah k).view q).ep)/\(o<n->k=o/\one=true)
section
variable {m:Cl} {q o n:Nat} {a:Int} {one:Bool}
theorem yU.skip (h:yU m q o n a one) (hA:wm m q o) (hc: ¬ wh ((m.ah n).view q)):yU m q o (n+1) a one:=by
 have hne:o≠n:=λe=>hc (e▸hA.me)
 rcases h with ⟨h1,h2⟩ | ⟨k,h1,h2,h3,h4,h5⟩
 ·exact .inl ⟨h1,λj hj=>(Nat.lt_succ_iff_lt_or_eq.1 hj).elim (h2 j) (λe=>e▸hc)⟩
 exact .inr ⟨k,h1,by omega,h3,λj hj hcj=>(Nat.lt_succ_iff_lt_or_eq.1 hj).elim (λh=>h4 j h hcj) (λe=>absurd (e▸hcj) hc),λh=>h5 oQ⟩
theorem yU.first (h:yU m q o n a one) (hA:wm m q o) (ha:a<0) (hc:wh ((m.ah n).view q)):yU m q o (n+1) ((n:Nat):Int) true:=by
 rcases h with ⟨h1,h2⟩ | ⟨k,h1,h2,h3,h4,h5⟩
 ·exact .inr ⟨n,rfl,by omega,hc,λj hj hcj=>(Nat.lt_succ_iff_lt_or_eq.1 hj).elim (λh=>absurd hcj (h2 j h)) (λe=>e▸Int.le_refl _),λh=>⟨(Nat.lt_succ_iff_lt_or_eq.1 h).elim (λh=>absurd hA.me (h2 o h)) Eq.symm,rfl⟩⟩
 omega
theorem yU.more {k:Nat} (h:yU m q o n ((k:Nat):Int) one) (hA:wm m q o) (hn:n<5) (hc:wh ((m.ah n).view q)) (hg:((m.ah k).view q).ep< ((m.ah n).view q).ep):yU m q o (n+1) ((n:Nat):Int) true:=by
 rcases h with ⟨h1,h2⟩ | ⟨k',h1,h2,h3,h4,h5⟩
 ·omega
 obtain rfl:k=k':=oQ;refine .inr ⟨n,rfl,by omega,hc,λj hj hcj=>(Nat.lt_succ_iff_lt_or_eq.1 hj).elim (λh=>by have:=h4 j h hcj;omega) (λe=>e▸Int.le_refl _),λh=>⟨?_,rfl⟩⟩
 rcases Nat.lt_succ_iff_lt_or_eq.1 h with h | h
 ·exfalso
  obtain ⟨rfl,_⟩:=h5 h;by_cases e:n=k
  ·omega
  have:=hA.sj n hn e hc;omega
 exact h.symm
theorem yU.less {k:Nat} (h:yU m q o n ((k:Nat):Int) one) (hA:wm m q o) (hn:n<5) (hc:wh ((m.ah n).view q)) (hg: ¬ ((m.ah k).view q).ep< ((m.ah n).view q).ep):(((m.ah n).view q).ep≠((m.ah k).view q).ep->yU m q o (n+1) ((k:Nat):Int) one)/\(((m.ah n).view q).ep=((m.ah k).view q).ep->yU m q o (n+1) ((k:Nat):Int) false):=by
 rcases h with ⟨h1,h2⟩ | ⟨k',h1,h2,h3,h4,h5⟩
 ·omega
 obtain rfl:k=k':=oQ;have hno:o≠n:=by
  rintro rfl;have:=hA.sj k oQ oQ h3;omega
 refine ⟨λ_=> .inr ⟨k,rfl,by omega,h3,λj hj hcj=>(Nat.lt_succ_iff_lt_or_eq.1 hj).elim (λh=>h4 j h hcj) (λe=>by subst e;omega),λh=>h5 oQ⟩,λhe=> .inr ⟨k,rfl,by omega,h3,λj hj hcj=>(Nat.lt_succ_iff_lt_or_eq.1 hj).elim (λh=>h4 j h hcj) (λe=>by subst e;omega),λh=>?_⟩⟩;obtain ⟨rfl,_⟩:=h5 oQ;have:=hA.sj n hn (λe=>hno e.symm) hc;omega
theorem yU.done (h:yU m q o 5 a one) (hA:wm m q o):a=((o:Nat):Int)/\one=true:=by
 rcases h with ⟨h1,h2⟩ | ⟨k,h1,h2,h3,h4,h5⟩
 ·exact absurd hA.me (h2 o hA.lt)
 obtain ⟨rfl,h6⟩:=h5 hA.lt;exact ⟨h1,h6⟩
end
theorem AA {B:Nat} {w0 w:World} {fs L:List Fact} {m:Cl} {x:OX} {q o:Nat} (hq:q<4) (hA:wm m q o) (S:St B w0 w fs) (hX:Xw L m x) (yT: ∀ f∈L,f∈fs):
    Calls Tryz.prog 10 #[.agg #[.int .i64 ((x.fl:Nat):Int),.bool (x.U 0),.bool (x.U 1),.bool (x.U 2),.bool (x.U 3),.bool (x.U 4),.int .i64 x.d.p0.node,.int .i64 x.d.p0.epoch,.int .i64 x.d.p1.node,.int .i64 x.d.p1.epoch,.int .i64 x.d.p2.node,.int .i64 x.d.p2.epoch,.int .i64 x.d.p3.node,.int .i64 x.d.p3.epoch,.slice x.BA 5 x.bc,.slice x.sA x.sn x.sc,.slice x.tA x.tn x.tc,.int .i64 ((x.calls:Nat):Int)],.int .i64 ((q:Nat):Int)] w (λe w'=>e= .returned (.tuple #[.int .i64 ((o:Nat):Int),.bool true])/\St B w0 w' fs):=by
 refine gu 64 Tryz.func10 ?_;refine cw [0,1] ?_;refine zN 2 ?_;refine iH S ?_;intro b1 w2 S3;refine zN 5 ?_;obtain ⟨ps,hpl,Nb,hp1⟩:=hX.ps;obtain ⟨bA,oA,hBa⟩:=yO Nb S3 (memT 1 rfl yT) dQ;refine zN 16 ?_;refine dN (X:=Nat×Int×Bool) (λxv=>[(1,.int .i64 ((q:Nat):Int)),(2,.pointer (some ⟨b1,0,none⟩)),(4,.int .i64 0),(5,.bool false),(6,.int .i64 xv.2.1),(7,.bool xv.2.2),(8,.int .i64 ((xv.1:Nat):Int))]) (λxv wr=>(xv.1<=5)/\(yU m q o xv.1 xv.2.1 xv.2.2)/\St B w0 wr ((.blk b1 #[.int .i64 ((x.fl:Nat):Int),.bool (x.U 0),.bool (x.U 1),.bool (x.U 2),.bool (x.U 3),.bool (x.U 4),.int .i64 x.d.p0.node,.int .i64 x.d.p0.epoch,.int .i64 x.d.p1.node,.int .i64 x.d.p1.epoch,.int .i64 x.d.p2.node,.int .i64 x.d.p2.epoch,.int .i64 x.d.p3.node,.int .i64 x.d.p3.epoch,.slice x.BA 5 x.bc,.slice x.sA x.sn x.sc,.slice x.tA x.tn x.tc,.int .i64 ((x.calls:Nat):Int)] 35)::fs)) (λxv=>5-xv.1) (0,(-1),true) ?_ ?_ ?_
 ·exact ⟨Nat.zero_le _,(.inl ⟨rfl,λj hj=>absurd hj (Nat.not_lt_zero _)⟩),S3⟩
 ·exact tN
 rintro ⟨n,a,one⟩ w4 ⟨hi6,Aw,S5⟩
 try dsimp only at hi6 Aw S5
 refine aZ (l':=[(1,.int .i64 ((q:Nat):Int)),(2,.pointer (some ⟨b1,0,none⟩)),(4,.int .i64 0),(5,.bool false),(6,.int .i64 a),(7,.bool one),(8,.int .i64 ((n:Nat):Int))]) tN (aH (aH (ay (vm ?_))));refine zN 3 ?_;by_cases h8:((n:Nat):Int)<5
 ·refine zN 9 ?_;obtain ⟨p,hp⟩: ∃ p,ps[n]? =some p:=⟨_,List.getElem?_eq_getElem oQ⟩;have hpp:=hp1 _ _ hp;obtain ⟨y,hy,hyb⟩:=RO hpp (q:=q) oQ;refine zN 4 ?_;refine vv (v:= .pointer (some ⟨bA,oA+n*1,none⟩)) (aR rfl rfl rfl (gB n hBa Tryz.underlying31 kQ rfl oQ)) ?_;refine vv (v:= .slice (some ⟨p.1,0,none⟩) 4 4) (aj rfl rfl (aC (jw Nb hBa S5 (memT 1 rfl yT) (aW (enc:=iB) (sz:=1) (k:=n) (j:=0) (λ_=>rfl) hp rfl)))) ?_;refine zQ ?_;refine vv (jf q) ?_;refine vv (v:= .agg #[.int .i64 y.b.role,.int .i64 y.b.ep,.int .i64 y.b.fr,.int .i64 y.b.tg,.int .i64 y.b.rd,.slice y.A y.b.evs.length y.c]) (aj rfl rfl (cZ (cs:=BX.cells y) (λj u hu=>by rw [Nat.add_assoc];exact jw hpp.rd rfl S5 (memT 1 rfl yT) (aW (enc:=BX.cells) (sz:=6) (k:=q) (λ_=>rfl) hy hu)))) ?_;refine gq S5 fP ?_;intro b9 ZE qI;refine sa 0 qI kQ ?_;intro ZC uZ;refine zN 6 ?_
  rcases Xx:svB y.b with _ | _
  ·have hns: ¬ serves y.b:=λhh=>by rw [afD.2 hh] at Xx;cases Xx
   by_cases hr3:y.b.role=3
   ·have hcd:wh ((m.ah n).view q):=by rw [<-hyb];exact .inr hr3
    have HV:=λw=>zZ y w;rw [Xx] at HV;refine cab eQ uZ (HV _) ?_;intro JV lV;refine zN 11 ?_
    rcases Int.lt_or_le a 0 with hneg | hneg
    ·refine zQ ?_;refine bV lV mixed kQ ?_;refine zN 16 ?_;refine dh λw22 oh=>?_;refine zN 15 ?_;refine vv (v:= .int .i64 ((n+1:Nat):Int)) fJ ?_;refine zN 2 ?_;have iP:=oh.aP [0];refine aM (n+1,((n:Nat):Int),true) ?_ tN (by first | omega | (dsimp only;omega));exact ⟨oQ,(yU.first Aw hA hneg hcd),iP⟩
    obtain ⟨k,rfl⟩:=Int.eq_ofNat_of_zero_le hneg;have hk5:k<5:=by rcases Aw with ⟨e,_⟩ | ⟨k2,e,hk2,_⟩<;>omega
    obtain ⟨p2,hp2⟩: ∃ p,ps[k]? =some p:=⟨_,List.getElem?_eq_getElem oQ⟩;have Sr:=hp1 _ _ hp2;obtain ⟨y2,hy2,DJ⟩:=RO Sr (q:=q) oQ;refine zQ ?_;refine bV lV mixed kQ ?_;refine zQ ?_;by_cases h26:((k:Nat):Int)<0
    ·refine zN 15 ?_;refine dh λSS kV=>?_;refine zN 15 ?_;refine vv (v:= .int .i64 ((n+1:Nat):Int)) fJ ?_;refine zN 2 ?_;have pU:=kV.aP [0];refine aM (n+1,((n:Nat):Int),true) ?_ tN (by first | omega | (dsimp only;omega));exact ⟨oQ,(yU.more Aw hA oQ hcd (by rw [<-hyb,<-DJ];omega)),pU⟩
    refine zN 7 ?_;refine ug (v:= .pointer (some ⟨bA,oA+k*1,none⟩)) (λ_ _=>(aR rfl rfl rfl (gB k hBa Tryz.underlying31 kQ rfl oQ))) ?_;refine ug (v:= .slice (some ⟨p2.1,0,none⟩) 4 4) (λ_ ao2=>(aj rfl rfl (aC (jw Nb hBa ao2 (memT 2 rfl yT) (aW (enc:=iB) (sz:=1) (k:=k) (j:=0) (λ_=>rfl) hp2 rfl))))) ?_;refine zQ ?_;refine ug (λ_ _=>jf q) ?_;refine zQ ?_;refine ug (v:= .int .i64 y2.b.ep) (λ_ aEi=>(aj rfl rfl (aC (by rw [Nat.add_assoc];exact jw Sr.rd rfl aEi (memT 2 rfl yT) (aW (enc:=BX.cells) (sz:=6) (k:=q) (j:=1) (λ_=>rfl) hy2 rfl))))) ?_;by_cases h46:y2.b.ep<y.b.ep
    ·refine zN 2 ?_;refine dh λVP oU=>?_;refine zN 15 ?_;refine vv (v:= .int .i64 ((n+1:Nat):Int)) fJ ?_;refine zN 2 ?_;have uX:=oU.aP [0];refine aM (n+1,((n:Nat):Int),true) ?_ tN (by first | omega | (dsimp only;omega));exact ⟨oQ,(yU.more Aw hA oQ hcd (by rw [<-hyb,<-DJ];omega)),uX⟩
    refine zN 2 ?_;refine dh λw54 uY=>?_;refine zN 3 ?_;refine bV uY mixed kQ ?_;refine zN 5 ?_;refine uv (v:= .pointer (some ⟨bA,oA+k*1,none⟩)) (λ_ _=>(aR rfl rfl rfl (gB k hBa Tryz.underlying31 kQ rfl oQ))) ?_;refine uv (v:= .slice (some ⟨p2.1,0,none⟩) 4 4) (λ_ aEj=>(aj rfl rfl (aC (jw Nb hBa aEj (memT 2 rfl yT) (aW (enc:=iB) (sz:=1) (k:=k) (j:=0) (λ_=>rfl) hp2 rfl))))) ?_;refine zQ ?_;refine uv (λ_ _=>jf q) ?_;refine zQ ?_;refine uv (v:= .int .i64 y2.b.ep) (λ_ ao3=>(aj rfl rfl (aC (by rw [Nat.add_assoc];exact jw Sr.rd rfl ao3 (memT 2 rfl yT) (aW (enc:=BX.cells) (sz:=6) (k:=q) (j:=1) (λ_=>rfl) hy2 rfl))))) ?_;by_cases yu:y.b.ep=y2.b.ep
    ·refine zQ ?_;refine dh λw69 uh=>?_;refine zN 9 ?_;refine vv (v:= .int .i64 ((n+1:Nat):Int)) fJ ?_;refine zN 2 ?_;have lu:=uh.aP [0];refine aM (n+1,((k:Nat):Int),false) ?_ tN (by first | omega | (dsimp only;omega));exact ⟨oQ,((yU.less Aw hA oQ hcd (by rw [<-hyb,<-DJ];omega)).2 (by rw [<-hyb,<-DJ];omega)),lu⟩
    refine zQ ?_;refine dh λw73 Lc=>?_;refine zN 7 ?_;refine vv (v:= .int .i64 ((n+1:Nat):Int)) fJ ?_;refine zN 2 ?_;have Ew:=Lc.aP [0];refine aM (n+1,((k:Nat):Int),one) ?_ tN (by first | omega | (dsimp only;omega));exact ⟨oQ,((yU.less Aw hA oQ hcd (by rw [<-hyb,<-DJ];omega)).1 (by rw [<-hyb,<-DJ];omega)),Ew⟩
   have hcd: ¬ wh ((m.ah n).view q):=by rw [<-hyb];exact λhh=>hh.elim hns hr3
   have HV:=λw=>zZ y w;rw [Xx] at HV;refine cab eQ uZ (HV _) ?_;intro w76 DY;refine zN 15 ?_;refine vv (v:= .int .i64 ((n+1:Nat):Int)) fJ ?_;refine zN 2 ?_;have Ci:=DY.aP [0];refine aM (n+1,a,one) ?_ tN (by first | omega | (dsimp only;omega));exact ⟨oQ,(yU.skip Aw hA hcd),Ci⟩
  have hcd:wh ((m.ah n).view q):=by rw [<-hyb];exact .inl (afD.1 Xx)
  have HV:=λw=>zZ y w;rw [Xx] at HV;refine cab eQ uZ (HV _) ?_;intro w80 tV;refine zN 11 ?_
  rcases Int.lt_or_le a 0 with hneg | hneg
  ·refine zQ ?_;refine bV tV mixed kQ ?_;refine zN 16 ?_;refine dh λw87 JN=>?_;refine zN 15 ?_;refine vv (v:= .int .i64 ((n+1:Nat):Int)) fJ ?_;refine zN 2 ?_;have GJ:=JN.aP [0];refine aM (n+1,((n:Nat):Int),true) ?_ tN (by first | omega | (dsimp only;omega));exact ⟨oQ,(yU.first Aw hA hneg hcd),GJ⟩
  obtain ⟨k,rfl⟩:=Int.eq_ofNat_of_zero_le hneg;have hk5:k<5:=by rcases Aw with ⟨e,_⟩ | ⟨k2,e,hk2,_⟩<;>omega
  obtain ⟨p2,hp2⟩: ∃ p,ps[k]? =some p:=⟨_,List.getElem?_eq_getElem oQ⟩;have Sr:=hp1 _ _ hp2;obtain ⟨y2,hy2,DJ⟩:=RO Sr (q:=q) oQ;refine zQ ?_;refine bV tV mixed kQ ?_;refine zQ ?_;by_cases F8:((k:Nat):Int)<0
  ·refine zN 15 ?_;refine dh λw95 D5=>?_;refine zN 15 ?_;refine vv (v:= .int .i64 ((n+1:Nat):Int)) fJ ?_;refine zN 2 ?_;have Au:=D5.aP [0];refine aM (n+1,((n:Nat):Int),true) ?_ tN (by first | omega | (dsimp only;omega));exact ⟨oQ,(yU.more Aw hA oQ hcd (by rw [<-hyb,<-DJ];omega)),Au⟩
  refine zN 7 ?_;refine ug (v:= .pointer (some ⟨bA,oA+k*1,none⟩)) (λ_ _=>(aR rfl rfl rfl (gB k hBa Tryz.underlying31 kQ rfl oQ))) ?_;refine ug (v:= .slice (some ⟨p2.1,0,none⟩) 4 4) (λ_ axR=>(aj rfl rfl (aC (jw Nb hBa axR (memT 2 rfl yT) (aW (enc:=iB) (sz:=1) (k:=k) (j:=0) (λ_=>rfl) hp2 rfl))))) ?_;refine zQ ?_;refine ug (λ_ _=>jf q) ?_;refine zQ ?_;refine ug (v:= .int .i64 y2.b.ep) (λ_ axS=>(aj rfl rfl (aC (by rw [Nat.add_assoc];exact jw Sr.rd rfl axS (memT 2 rfl yT) (aW (enc:=BX.cells) (sz:=6) (k:=q) (j:=1) (λ_=>rfl) hy2 rfl))))) ?_;by_cases Dz:y2.b.ep<y.b.ep
  ·refine zN 2 ?_;refine dh λah6 qc=>?_;refine zN 15 ?_;refine vv (v:= .int .i64 ((n+1:Nat):Int)) fJ ?_;refine zN 2 ?_;have uH:=qc.aP [0];refine aM (n+1,((n:Nat):Int),true) ?_ tN (by first | omega | (dsimp only;omega));exact ⟨oQ,(yU.more Aw hA oQ hcd (by rw [<-hyb,<-DJ];omega)),uH⟩
  refine zN 2 ?_;refine dh λanY oV=>?_;refine zN 3 ?_;refine bV oV mixed kQ ?_;refine zN 5 ?_;refine uv (v:= .pointer (some ⟨bA,oA+k*1,none⟩)) (λ_ _=>(aR rfl rfl rfl (gB k hBa Tryz.underlying31 kQ rfl oQ))) ?_;refine uv (v:= .slice (some ⟨p2.1,0,none⟩) 4 4) (λ_ axT=>(aj rfl rfl (aC (jw Nb hBa axT (memT 2 rfl yT) (aW (enc:=iB) (sz:=1) (k:=k) (j:=0) (λ_=>rfl) hp2 rfl))))) ?_;refine zQ ?_;refine uv (λ_ _=>jf q) ?_;refine zQ ?_;refine uv (v:= .int .i64 y2.b.ep) (λ_ axU=>(aj rfl rfl (aC (by rw [Nat.add_assoc];exact jw Sr.rd rfl axU (memT 2 rfl yT) (aW (enc:=BX.cells) (sz:=6) (k:=q) (j:=1) (λ_=>rfl) hy2 rfl))))) ?_;by_cases aDU:y.b.ep=y2.b.ep
  ·refine zQ ?_;refine dh λan6 GR=>?_;refine zN 9 ?_;refine vv (v:= .int .i64 ((n+1:Nat):Int)) fJ ?_;refine zN 2 ?_;have zh:=GR.aP [0];refine aM (n+1,((k:Nat):Int),false) ?_ tN (by first | omega | (dsimp only;omega));exact ⟨oQ,((yU.less Aw hA oQ hcd (by rw [<-hyb,<-DJ];omega)).2 (by rw [<-hyb,<-DJ];omega)),zh⟩
  refine zQ ?_;refine dh λatQ Du=>?_;refine zN 7 ?_;refine vv (v:= .int .i64 ((n+1:Nat):Int)) fJ ?_;refine zN 2 ?_;have Dr:=Du.aP [0];refine aM (n+1,((k:Nat):Int),one) ?_ tN (by first | omega | (dsimp only;omega));exact ⟨oQ,((yU.less Aw hA oQ hcd (by rw [<-hyb,<-DJ];omega)).1 (by rw [<-hyb,<-DJ];omega)),Dr⟩
 refine zN 19 ?_;obtain rfl:n=5:=oQ;obtain ⟨rfl,rfl⟩:=yU.done Aw hA;have aa3:=S5.aP [0];exact ⟨rfl,aa3⟩
section
variable {Q Q2 Q3 y:Qd} {l:List fD} {i j k:Nat} {a b:fD} {e:Ev}
def Sv (Q Q':Qd):Prop:=Q.ep<Q'.ep\/Q.ep=Q'.ep/\Q.gv<=Q'.gv
theorem Sv.trans (h:Sv Q Q2) (h':Sv Q2 Q3):Sv Q Q3:=by unfold Sv at*;omega
theorem ahL:Sv Q (stepM Q e).1/\(stepM Q e).1.ep<=Q.ep+1:=by
 have same: ∀ {Q':Qd},Q'.ep=Q.ep->Q.gv<=Q'.gv->Sv Q Q'/\Q'.ep<=Q.ep+1:=λh1 h2=>⟨.inr ⟨h1.symm,h2⟩,by omega⟩;have s0:=same (Q':=Q) rfl (Int.le_refl _);unfold stepM
 split
 ·unfold AL
  split; · exact s0
  split; · exact s0
  split; · exact s0
  exact same rfl (Int.le_refl _)
 split
 ·unfold EW
  split; · exact s0
  split; · exact s0
  exact same rfl uQ
 split
 ·unfold Dn
  split; · exact s0
  split; · exact s0
  exact same rfl (Int.le_refl _)
 unfold Dp
 split; · exact s0
 exact ⟨.inl uQ,Int.le_refl _⟩
end
section
variable {m w m':Cl} {n q B k:Nat} {l:dK} {G G':Nat->Gh} {g g':Gh} {b b':bn} {rs us:List dD} {V:Nat->bn} {P:Nat->Option dB} {U:Nat->Bool} {Lt:dK->Prop} {pl:Pl} {sh:Nat->Int×Int} {sv:List fD}
theorem aau: ∀ {k:Nat} {l:List Ev},l.length=k->good l->(av l).1.ep<=k
 | 0,l,hk,h=>by
  rw [List.length_eq_zero_iff.1 hk];rw [yM (l:=[]) iQ (show gX bS [] []=some (bS,[]) from rfl)];exact Int.le_refl _
 | k+1,l,hk,h=>by
  have e1:l=l.take k++[l[k]]:=by rw [<-nK oQ,<-hk,List.take_length]
  have h':good (l.take k++[l[k]]):=e1▸h;obtain ⟨h1,_,h3⟩:=good_step h';have ih:=aau (k:=k) (l:=l.take k) (by rw [List.length_take];omega) (pE h);obtain ⟨_,_,h6⟩:=ZU h1;rw [e1,h3,h6];have:=(ahL (Q:=(av (l.take k)).1) (e:=l[k])).2
  show (stepM (av (l.take k)).1 l[k]).1.ep<=((k+1:Nat):Int)
  omega
theorem ahM {l:List Ev} (h:good l) (hl:l.length<2000):good (l++[aI]):=by
 have hf:=Z7 rfl h;have he:=aau rfl h;have hd:iw (av l).1 aI=_:=zM hf dQ;have hs:stepM (av l).1 aI=Dp (av l).1:=rfl;have hz:(stepM (av l).1 aI).2.2=true:=by
  rw [hs];unfold Dp;rw [if_neg oQ]
 exact OL h hl (by rw [hd]) (by rw [hd];exact hz)
theorem KO {s:Int} {f:Nat->bn}: ∀ (ql:List Nat) {d:List UInt8},(∀ q∈ql,(f q).role=1->(dV (f q)).2=0/\aJ (fG 2 q (f q).ep 0 aI)=0)->0<=s->s<=d.length->d.length+46*ql.length<=100000-> ∃ d',eB s f ql d=some d'
 | [],d,_,_,_,_=>⟨d,rfl⟩
 | q::r,d,h,h0,h1,h2=>by
  rw [List.length_cons] at h2;rw [eB];by_cases c:(f q).role≠1
  ·rw [if_pos c];exact KO r (λx hx=>h x (List.mem_cons_of_mem _ hx)) h0 h1 oQ
  rw [if_neg c];obtain ⟨a1,a2⟩:=h q List.mem_cons_self (Classical.not_not.1 c);rw [if_neg (λe=>e a1),zD (rs:=[fG 2 q (f q).ep 0 aI]) (λx hx=>by rw [List.mem_singleton] at hx;subst hx;exact a2) h0 h1 (by rw [List.length_singleton];omega)];have hf:=xP [fG 2 q (f q).ep 0 aI];rw [List.length_singleton] at hf;exact KO r (λx hx=>h x (List.mem_cons_of_mem _ hx)) h0 (by rw [List.length_append];omega) (by rw [List.length_append];omega)
theorem Ea {q:Nat} {evs:List Ev} {an:List iM}: ∀ (il:List Nat) (w:Cl),(w.recovered n q evs an il).ah=w.ah
 | [],_=>rfl
 | i::r,w=>(Ea r (w.tell n q (evs.getD i aO) (an.getD i eD) (-1))).trans rfl
theorem Iz (w:Cl) (q:Nat):(w.recover n q).ah=w.ah:=by
 unfold Cl.recover
 split
 ·rfl
 exact Ea _ _
theorem CU {bs:Nat->bn}: ∀ (ql:List Nat) (w:Cl) (j:Nat),((Cl.woken n bs ql w).ah j).up=(w.ah j).up
 | [],_,_=>rfl
 | q::r,w,j=>by
  rw [Cl.woken]
  split
  ·exact CU r w j
  rw [CU r]
  show (((w.recover n q).aK n q (dV (bs q)).1).ah j).up=_
  by_cases e:j=n
  ·subst e;rw [show ((w.recover j q).aK j q (dV (bs q)).1).ah j=((w.recover j q).ah j).aK q (dV (bs q)).1 from dw _]
   show ((w.recover j q).ah j).up=_
   rw [Iz]
  rw [show ((w.recover n q).aK n q (dV (bs q)).1).ah j=(w.recover n q).ah j from upd_ne e,Iz]
theorem adI (j:Nat) (h:(m.ah j).up=true):((m.start n).ah j).up=true:=by
 unfold Cl.start
 split
 ·exact h
 split
 ·exact h
 rw [CU];by_cases e:j=n
 ·subst e;rw [dw]
 rw [show ∀ X,(m.put n X).ah j=m.ah j from λX=>upd_ne e];exact h
theorem adJ {T S D K:Nat} (hq: ∀ q,q<2-> ∃ g,QI m q g/\g.G.length<2000) (hv:Vd m) (hb:dM m T S D K) (hn:n<5) (hd:(m.ah n).data.length+184<=100000):((m.start n).ah n).up=true:=by
 cases hu:(m.ah n).up with
 | true=>unfold Cl.start;rw [if_pos hu];exact hu
 | false=>
  obtain ⟨rs,t,f,hD⟩:=(hb.kr n hn).auP hu;obtain ⟨r1,r2,r3⟩:=hD.rd;have hdl:=congrArg List.length hD.data;rw [List.length_append] at hdl;obtain ⟨d',hw⟩:=KO (s:=(jr (m.ah n).data (m.ah n).syn).2.1) (f:=bC (m.ah n).data (m.ah n).syn) [0,1,2,3] (d:=(jr (m.ah n).data (m.ah n).syn).1) (λq hq4 hr=>by
   have h4:q<4:=by simp only [List.mem_cons,List.not_mem_nil,or_false] at hq4;omega
   rw [r3 q h4] at hr⊢;have fU:=hD.view hu h4;have hq2:q<2:=by
    by_cases c:q<2
    ·exact c
    have:=hv.rol n hn q oQ h4;unfold vw at this;rw [fU] at this;omega
   obtain ⟨g,I,hG⟩:=hq q hq2;have hV:vw m q n=f q:=fU;have ho:=I.oEp hn (by rw [hV];exact .inl hr);have hev:(f q).evs=g.G:=by rw [<-hV,ho];exact I.Ga
   have hs:=fI (hD.mP q h4).1;unfold bq at hs;have hgd:=ahM I.gd hG;have hf:au ⟨1,(f q).ep,0,0,0,(f q).evs++[aI]⟩=0:=mE (yB oQ oQ _) (by rw [hev];exact hgd);refine ⟨?_,vR oQ h4 oQ oQ dQ⟩;unfold dV;rw [if_neg (λh=>h (hD.mP q h4).1),if_neg oQ,if_neg (λh=>h hf)]) (by rw [r1];dsimp only;have:=hD.syn;omega) (by rw [r1];dsimp only;omega) (by rw [r1];dsimp only [List.length_cons,List.length_nil];omega)
  unfold Cl.start;rw [if_neg (by rw [hu];simp),hw];dsimp only;rw [CU,dw]
theorem Inv.afE (I:Inv g V P U Lt pl sh sv): ∀ k,k+1<g.m->k<=g.len (k+1)
 | 0,_=>Nat.zero_le _
 | k+1,h=>by
  have ih:=Inv.afE I k oQ;have:=(I.brk (k+1) oQ oQ).2;unfold Gh.bd at this;rw [if_neg oQ] at this;omega
theorem Inv.aEk (I:Inv g V P U Lt pl sh sv):g.m<=g.G.length+1:=by
 by_cases c:g.m<=1
 ·omega
 have h1:=I.afE (g.m-2) oQ;have h2:=I.ML (k:=g.m-2+1) oQ oQ;omega
theorem adK (o:Option dB):Px o<=chP o:=by
 cases o with
 | none=>exact Nat.zero_le _
 | some p=>cases p<;>simp [Px,chP]
theorem axV:m.c0<=m.cw:=by
 have h: ∀ a:List dK,jK qG a<=qE a:=by
  intro a
  induction a with
  | nil=>exact Nat.zero_le _
  | cons l r ih=>
   have:qG l<=J6 l:=by
    unfold qG J6
    split
    ·rename_i h;rw [if_pos (.inl h)];exact Nat.le_refl _
    exact Nat.zero_le _
   rw [jK,qE];omega
 have h0:=h m.fly;have i0:=h (m.ah 0).inbox;have i1:=h (m.ah 1).inbox;have i2:=h (m.ah 2).inbox;have i3:=h (m.ah 3).inbox;have i4:=h (m.ah 4).inbox;have s0:=adK (m.ah 0).pend;have s1:=adK (m.ah 1).pend;have s2:=adK (m.ah 2).pend;have s3:=adK (m.ah 3).pend;have s4:=adK (m.ah 4).pend;unfold Cl.c0 Cl.ws Cl.cw xu;omega
theorem axW {F:Wy} (h:0<=b.ep) (hR:F.R<=1):fi F n b<=46*(F.M+2)+92+13892:=by
 have h1:Wh b.role<=2:=by unfold Wh;split;omega;split<;>omega
 have h2:fiT F n b<=13892:=by unfold fiT;split<;>omega
 unfold fi;omega
theorem anH:(CG m q g).R<=1:=by unfold CG;dsimp only;split<;>omega
theorem axX {kk:Nat} (hL: ∀ q,q<2->LW m q (G q) k) (hv:Vd m) {T S D K:Nat} (hb:dM m T S D K) (hup: ∀ n,n<5->(m.ah n).up=true) (hk:k<=127) (hc:m.cw<=kk) (hkk:kk<=127):Rm m G 99954:=by
 refine ⟨hup,hv,λq hq=>(hL q hq).qi,λn hn=>?_,λq hq=>?_⟩
 ·obtain ⟨rs,us,hU⟩:=(hb.kr n hn).Cx (hup n hn);have hd:=(hL 0 dQ).data n hn;have hw:=aw9 (m:=m) (F:=FF m G);have hfi: ∀ q,q<2->fi (FF m G q) n (uj (m.ah n) q)<=19964:=λq hq=>by
   have hvb:au (uj (m.ah n) q)=0:=by
    cases hp:(m.ah n).pend with
    | none=>rw [Bw hp];exact hU.mP q oQ
    | some p=>
     obtain ⟨_,h2,h3⟩:=hU.O4 p hp;by_cases e:p.q=q
     ·rw [Bz hp e];exact (kT hU.tape hU.mP h2 h3).2
     rw [Pw hp e];exact hU.mP q oQ
   have hs:=fI hvb;unfold bq at hs;have h1:=axW (n:=n) (F:=FF m G q) (b:=uj (m.ah n) q) oQ anH;have h2:=(hL q hq).qi.aEk;have h3:=(hL q hq).Xj;have h4:(FF m G q).M=(G q).m:=rfl;omega
  have h0:=hfi 0 dQ;have h1:=hfi 1 dQ;unfold Na;omega
 have h1:=(hL q hq).Xj;have h2:=axV (m:=m);have h3:(FF m G q).R<=1:=anH;omega
end
theorem axY (g:Gr) (cr:Bool):(fM g cr).qu<2:=by
 have p2:=og (n:=g.b) (m:=2) dQ;unfold fM
 split
 ·unfold RG;dsimp only;omega
 repeat' split
 all_goals first | omega | (dsimp only;omega)
theorem PL: ∀ (j:Nat) {m:Cl} {k:Nat} {G:Nat->Gh},(∀ q,q<2->LW m q (G q) k)->Vd m->Bs m k->j<=5->k+j<=540-> ∃ G':Nat->Gh,(∀ q,q<2->LW (m.run (starts j)) q (G' q) (k+j))/\Vd (m.run (starts j))/\Bs (m.run (starts j)) (k+j)/\(∀ i,i<j->((m.run (starts j)).ah i).up=true)/\(m.run (starts j)).cw<=m.cw+j
 | 0,m,k,G,hL,hv,hb,_,_=>⟨G,hL,hv,hb,λi hi=>by omega,Nat.le_refl _⟩
 | j+1,m,k,G,hL,hv,hb,hj,hk=>by
  obtain ⟨G1,h1,v1,b1,u1,c1⟩:=PL j hL hv hb oQ oQ;have e:m.run (starts (j+1))=(m.run (starts j)).act (TL 9 (j:Int)):=by
   rw [Ir];unfold Cl.run;rw [List.foldl_append];rfl
  rw [e];obtain ⟨f1,f2⟩:=FH (k:=9) (n:=j) (.inl ⟨.inl rfl,by omega⟩);have ha:=RI f1;obtain ⟨G2,hG2⟩:=Xm (Q:=λq g'=>LW ((m.run (starts j)).act (TL 9 (j:Int))) q g' (k+j+1)) λq hq=>by
   obtain ⟨g',h2,_⟩:=aad (h1 q hq) b1 ha f2 oQ oQ;exact ⟨g',h2⟩
  have es:(m.run (starts j)).act (TL 9 (j:Int))=(m.run (starts j)).start j:=rfl;refine ⟨G2,λq hq=>hG2 q hq,afx v1 b1 ha f2 (by show (0:Int)<2;decide),(yE b1 ha oQ:Bs _ (k+j+1)),λi hi=>?_,?_⟩
  ·rw [es];by_cases ei:i=j
   ·subst ei;exact adJ (λq hq=>⟨_,(h1 q hq).qi,by have:=(h1 q hq).Xj;omega⟩) v1 b1 oQ (by have:=(h1 0 dQ).data i oQ;omega)
   exact adI i (u1 i oQ)
  have:=aft b1 ha;omega
theorem Vw {gs:List Gr} {m:Nat} {cr:Bool} (h:m<=120): ∃ G k,Rm (mD.run (cK gs m cr++starts 5)) G 99954/\Bs (mD.run (cK gs m cr++starts 5)) k/\k<=127:=by
 have e:mD.run (cK gs m cr++starts 5)=(tL.run ((gs.take m).map (fM · cr))).run (starts 5):=by
  unfold cK
  show Cl.run ((mD.act (ac8 0 0)).act (ac8 1 1)) (((gs.take m).map (fM · cr))++starts 5)=_
  rw [afp,afq];unfold Cl.run;rw [List.foldl_append]
 have hl:((gs.take m).map (fM · cr)).length<=m:=by rw [List.length_map,List.length_take];omega
 have hac: ∀ a∈(gs.take m).map (fM · cr),zF a/\a.kd≠1/\a.qu<2:=λa ha=>by
  obtain ⟨g,_,rfl⟩:=List.mem_map.1 ha;exact ⟨RI (Wn g cr).1,(Wn g cr).2,axY g cr⟩
 obtain ⟨G,hG⟩:=Xm (Q:=λq g'=>LW (tL.run ((gs.take m).map (fM · cr))) q g' (2+((gs.take m).map (fM · cr)).length)) λq hq=>by
  obtain ⟨g',h1,_⟩:=aae oQ ((gs.take m).map (fM · cr)) (aw5 hq) Xl (λa ha=>⟨(hac a ha).1,(hac a ha).2.1⟩) oQ;exact ⟨g',h1⟩
 have hv:=afy ((gs.take m).map (fM · cr)) aw7 Xl hac oQ;have hc:=afu ((gs.take m).map (fM · cr)) Xl (λa ha=>(hac a ha).1) oQ;have hb:=afm ((gs.take m).map (fM · cr)) Xl (λa ha=>(hac a ha).1) oQ;obtain ⟨G',h1,v1,b1,u1,c1⟩:=PL 5 hG hv hb oQ oQ;have h0:tL.cw=0:=rfl;rw [e];exact ⟨G',_,axX (kk:=127) h1 v1 b1 u1 oQ oQ (Nat.le_refl _),b1,by omega⟩
theorem PN: ∀ (r:Nat),∀ a∈xg r,Wm a
 | 0,a,h=>by cases h
 | r+1,a,h=>by
  rw [G9] at h
  rcases List.mem_append.1 h with h | h
  ·rcases List.mem_append.1 h with h | h
   ·exact PN r a h
   obtain ⟨n,hn,rfl⟩:=List.mem_map.1 h;exact .inl rfl
  rw [List.mem_singleton] at h;subst h;exact .inr rfl
theorem adL {gs:List Gr} {m r:Nat} {cr:Bool} (h:m<=120) (hr:r<=16000): ∃ G k,Rm (mD.run (kE (cK gs m cr) r)) G 99954/\Bs (mD.run (kE (cK gs m cr) r)) k:=by
 obtain ⟨G,k,h1,h2,h3⟩:=Vw (gs:=gs) (cr:=cr) h;have e:mD.run (kE (cK gs m cr) r)=(mD.run (cK gs m cr++starts 5)).run (xg r):=by
  unfold kE Cl.run;rw [List.foldl_append]
 obtain ⟨G',r1,r2,_⟩:=afB (xg r) h1 oQ h2 (λa ha=>⟨RI (Hl r a ha).1,PN r a ha⟩) (by rw [Kz];omega);rw [e];exact ⟨G',_,r1,r2⟩
section
variable {m:Cl} {q n k:Nat} {g:Gh}
theorem LW.axZ (h:LW m q g k) (hn:n<5) (h3:((m.ah n).view q).role=3):((m.ah n).view q).ep<=g.m/\(((m.ah n).view q).ep=g.m->n=g.o):=by
 have I:=h.qi;by_cases e:n=g.o
 ·subst e;have:=I.zW;unfold vw at this;exact ⟨by omega,λ_=>rfl⟩
 have:=I.sj n hn e;unfold vw at this
 rcases this with ⟨h1,_⟩ | ⟨k,h1,h2,h4,h5,_⟩ | ⟨k,h1,_⟩<;>exact ⟨by omega,λ_=>by omega⟩
theorem LW.aQ (h:LW m q g k) (hn:n<5) (hs:serves ((m.ah n).view q)):n=g.o/\((m.ah n).view q).ep=g.m:=by
 have I:=h.qi;have e:=Inv.who I hn hs;have:=I.zW;unfold vw at this;rw [<-e] at this;exact ⟨e,this⟩
theorem LW.auth (h:LW m q g k):wm m q g.o:=by
 have I:=h.qi;have h1:=I.arl;have h2:=I.zW;unfold vw at h1 h2;refine ⟨I.o5,?_,λn hn hne hc=>?_⟩
 ·unfold wh serves;omega
 rcases hc with hc | hc
 ·exact absurd (h.aQ hn hc).1 hne
 obtain ⟨h3,h4⟩:=h.axZ hn hc;have:((m.ah n).view q).ep≠g.m:=λe=>hne (h4 e);omega
end
end Go.Proofs.YtlfgjcahpppbbaaGreatDoor
