import Derived.Test.YtcomidffhiilcaaGreatDoorG35747
import Derived.Test.YtcomidffhiilcaaGreatDoorG37e8a
import Derived.Test.YtcomidffhiilcaaGreatDoorGb79dc
set_option maxRecDepth 100000
set_option maxHeartbeats 8000000
set_option linter.unusedSimpArgs false
set_option linter.unusedVariables false
namespace Go.Proofs.YtcomidffhiilcaaGreatDoor
open ChangeShapes WideShapes RowKit
theorem Mj {B kb n turn dc:Nat} {up:Bool} {dA:Option Addr} {data:List UInt8} {syn:Int} {Hh:Nat->Pl} {Us:Nat->Bool} {bv iv pv:Value} {w0 w:World} {fs:List Fact} {L:List Fact} {rs:List dH} {RA:Option Addr} {rc:Nat} (hw:fG data syn rs=none) (hrs:Ro fs 10 RA rs.length (rs.flatMap dH.cells)) (htp:Ro L 1 dA data.length (byteCells data)) (hL: ∀ f∈L,f∈fs) (hrl:rs.length<=1000000) (S:St B w0 w ((.blk kb (dF n up (.slice dA data.length dc) syn bv Hh Us iv pv turn) 110)::fs)):
  Calls tP 65 #[pV kb 0,.slice RA rs.length rc] w (λe w'=>e= .returned (.bool false)/\St B w0 w' ((.blk kb (dF n up (.slice dA data.length dc) syn bv Hh Us iv pv turn) 110)::fs)):=(Fp (rc:=rc) hrs htp hL hrl S).mono λe w' h=>h.elim (λh=>h.2) λ⟨_,_,_,_,h,_⟩=>by rw [hw] at h;cases h
theorem Mk {B kb n turn dc:Nat} {up:Bool} {dA:Option Addr} {data:List UInt8} {syn:Int} {Hh:Nat->Pl} {Us:Nat->Bool} {bv iv pv:Value} {w0 w:World} {fs:List Fact} {L:List Fact} {d':List UInt8} {rs:List dH} {RA:Option Addr} {rc:Nat} (hw:fG data syn rs=some d') (hrs:Ro fs 10 RA rs.length (rs.flatMap dH.cells)) (htp:Ro L 1 dA data.length (byteCells data)) (hL: ∀ f∈L,f∈fs) (hrl:rs.length<=1000000) (S:St B w0 w ((.blk kb (dF n up (.slice dA data.length dc) syn bv Hh Us iv pv turn) 110)::fs)):
  Calls tP 65 #[pV kb 0,.slice RA rs.length rc] w (λe w'=> ∃ A' c' N,e= .returned (.bool true)/\Ro (L++N) 1 A' d'.length (byteCells d')/\St B w0 w' ((.blk kb (dF n up (.slice A' d'.length c') syn bv Hh Us iv pv turn) 110)::(fs++N))):=(Fp (rc:=rc) hrs htp hL hrl S).mono λe w' h=>h.elim (λh=>by rw [hw] at h;cases h.1) λ⟨d2,A',c',N,h,h1,h2,h3⟩=>by
 rw [hw] at h
 cases h;exact ⟨A',c',N,h1,h2,h3⟩
theorem afA {kn kw:Nat} {L:List Fact}: ∀ {p:Option fO} {v:Value},pO kn kw L p v->v.oneCell'=true
 | none,v,h=>by
  have h':v= .nilFunc:=h;subst h';rfl
 | some p,v,h=>by
  obtain ⟨f,xs,ys,rfl⟩:=J4 h;rfl
theorem au3 {me turn:Nat} {up:Bool} {tv bv iv pv:Value} {syn:Int} {H:Nat->Pl} {U:Nat->Bool} (h1:tv.oneCell'=true) (h2:bv.oneCell'=true) (h3:iv.oneCell'=true) (h4:pv.oneCell'=true): ∀ u∈(dF me up tv syn bv H U iv pv turn).toList,u.oneCell'=true:=by
 intro u hu;simp only [dF,List.mem_cons,List.not_mem_nil,or_false] at hu
 rcases hu with rfl | rfl | rfl | rfl | rfl | rfl | rfl | rfl | rfl | rfl | rfl | rfl | rfl | rfl | rfl | rfl | rfl | rfl | rfl | rfl<;>first | rfl | assumption
section
variable {V:Nat->bK} {k n:Nat} {s:Int} {d d':List UInt8} {bs ws:List BX} {L:List Fact} {m mm md:Cl} {X:Nd} {y x:BX} {b:bK} {H:List LX}
theorem Ob (hc: ∀ y∈bs,y.b.evs.length<=y.c) (y:BX) (hy:y∈bs):Bv (eT bs) y:=⟨Ro.bI (List.mem_map.2 ⟨y,hy,rfl⟩),hc y hy⟩
theorem Uq (h:bs.map BX.b=vB V) (hk:k<4): ∃ y,bs[k]? =some y/\y.b=V k:=by
 have hl:bs.length=4:=by have:=congrArg List.length h;simpa [vB] using this
 refine ⟨bs[k],List.getElem?_eq_getElem oQ,?_⟩;have h1:(bs.map BX.b)[k]? =some (bs[k]).b:=by rw [List.getElem?_map,List.getElem?_eq_getElem oQ];rfl
 rw [h] at h1;have h2:k=0\/k=1\/k=2\/k=3:=oQ
 rcases h2 with rfl | rfl | rfl | rfl<;>(simp only [vB] at h1;exact (Option.some.inj h1).symm)
theorem apE:vB V=vB (λj=>if j<0/\(V j).role=1 then (fJ (V j)).1 else V j):=zW λj _=>by rw [if_neg oQ]
theorem abz (h: ¬ (V k).role=1):vB (λj=>if j<k/\(V j).role=1 then (fJ (V j)).1 else V j)=vB (λj=>if j<k+1/\(V j).role=1 then (fJ (V j)).1 else V j):=zW λj _=>by
 by_cases e:j=k
 ·subst e;rw [if_neg (λh'=>h h'.2),if_neg (λh'=>h h'.2)]
 by_cases e2:j<k/\(V j).role=1
 ·rw [if_pos e2,if_pos ⟨by omega,e2.2⟩]
 rw [if_neg e2,if_neg (λh'=>e2 ⟨by omega,h'.2⟩)]
theorem abA (hk:k<4) (hr:(V k).role=1) (hb:(fJ (V k)).1=b):(vB (λj=>if j<k/\(V j).role=1 then (fJ (V j)).1 else V j)).set k b=vB (λj=>if j<k+1/\(V j).role=1 then (fJ (V j)).1 else V j):=by
 rw [Uh hk];refine zW λj _=>?_;by_cases e:j=k
 ·subst e;rw [upd_same,if_pos ⟨by omega,hr⟩,hb]
 rw [upd_ne e];by_cases e2:j<k/\(V j).role=1
 ·rw [if_pos e2,if_pos ⟨by omega,e2.2⟩]
 rw [if_neg e2,if_neg (λh'=>e2 ⟨by omega,h'.2⟩)]
theorem abB {r:List Nat} (h: ¬ (V k).role=1):eU s V (k::r) d=eU s V r d:=by rw [eU,if_pos h]
theorem abC {r:List Nat} (h:(V k).role=1) (h1:(fJ (V k)).2=0) (h2:fG d s [fV 2 k (V k).ep 0 cO]=some d'):eU s V (k::r) d=eU s V r d':=by
 rw [eU,if_neg (λe=>e h),if_neg (λe=>e h1),h2]
theorem afB {r:List Nat} (h:(V k).role=1) (h1: ¬ (fJ (V k)).2=0):eU s V (k::r) d=none:=by rw [eU,if_neg (λe=>e h),if_pos h1]
theorem afC {r:List Nat} (h:(V k).role=1) (h2:fG d s [fV 2 k (V k).ep 0 cO]=none):eU s V (k::r) d=none:=by
 rw [eU,if_neg (λe=>e h)]
 split
 ·rfl
 rw [h2]
theorem J6: ∀ {ql:List Nat} {d d':List UInt8},eU s V ql d=some d'-> ∀ q∈ql,(V q).role=1->aj (oF (V q))=0/\fJ (V q)=(oF (V q),0)
 | [],d,d',h,q,hq,_=>by simp at hq
 | k::r,d,d',h,q,hq,hr=>by
  rw [eU] at h;by_cases c1:(V k).role≠1
  ·rw [if_pos c1] at h
   rcases List.mem_cons.1 hq with rfl | hq
   ·exact absurd hr c1
   exact J6 h q hq hr
  rw [if_neg c1] at h;by_cases c2:(fJ (V k)).2≠0
  ·rw [if_pos c2] at h;cases h
  rw [if_neg c2] at h
  split at h
  ·cases h
  rcases List.mem_cons.1 hq with rfl | hq
  ·exact Yf hr c2
  exact J6 h q hq hr
theorem abD (h:eU s V [0,1,2,3] d=some d') (q:Nat) (hq:q<4):(V q).role=1->aj (oF (V q))=0/\fJ (V q)=(oF (V q),0):=J6 h q (by
 have h2:q=0\/q=1\/q=2\/q=3:=oQ
 rcases h2 with rfl | rfl | rfl | rfl<;>decide)
theorem afD (hw:(V k).role=1->aj (oF (V k))=0/\fJ (V k)=(oF (V k),0)) (hx:x.b=if k<4/\(V k).role=1 then (fJ (V k)).1 else V k) (hr: ¬ x.b.role=1): ¬ (V k).role=1:=λe=>hr (by
 rw [hx]
 split
 ·rw [(hw e).2];rfl
 exact e)
theorem afE (hx:x.b=if k<4/\(V k).role=1 then (fJ (V k)).1 else V k) (hr:x.b.role=1):(V k).role=1:=by
 by_cases c:(V k).role=1
 ·exact c
 rw [hx,if_neg (λh=>c h.2)] at hr;exact hr
theorem Xc {r:List Nat} (h: ¬ (V k).role=1):Cl.woken n V (k::r) mm=Cl.woken n V r mm:=by rw [Cl.woken,if_pos h]
theorem Xd {r:List Nat} (h:(V k).role=1) (hm:md=((mm.recover n k).eO n k (fJ (V k)).1).tell n k cO iH (-1)):Cl.woken n V (k::r) mm=Cl.woken n V r md:=by rw [Cl.woken,if_neg (λe=>e h),hm]
theorem abE {q:Nat} (hX:mm.au n=X):(mm.eO n q b).tell n q cO iH (-1)={ mm.put n (X.eO q b) with aX:=mm.aX++[⟨n,q,b.ep,cO,iH,-1⟩],shown:=oz mm.shown n q (b.ep,(b.evs.length:Int)) }:=by
 subst hX;have e:((mm.eO n q b).au n).bs q=b:=by
  show (upd mm.au n _ n).bs q=b
  rw [upd_same];exact upd_same _ _ _
 unfold Cl.tell;rw [e];rfl
theorem ajv (h: ∀ q,q<4->aj (X.bs q)=0) (hb:aj b=0) (j:Nat) (hj:j<4):aj ((X.eO k b).bs j)=0:=by
 show aj (upd X.bs k b j)=0
 by_cases e:j=k
 ·rw [e,upd_same];exact hb
 rw [upd_ne e];exact h j hj
theorem IX {f:Nat->Nat->Int×Int} {a q:Nat} {e:Int} {l:List Ev} (h: ∀ a b,0<=(f a b).2) (i j:Nat):0<=(oz f a q (e,(l.length:Int)) i j).2:=by
 unfold oz
 split
 ·exact Int.natCast_nonneg _
 exact h i j
theorem Fv (m:Cl) (n q:Nat) (h: ∀ a b,0<=(m.shown a b).2):(m.recover n q).au=m.au/\(m.recover n q).fly=m.fly/\ ∀ a b,0<=((m.recover n q).shown a b).2:=by
 have tl: ∀ (m:Cl) e a u,(∀ a b,0<=(m.shown a b).2)-> ∀ i j,0<=((m.tell n q e a u).shown i j).2:=λm e a u h=>IX h;have rc: ∀ (il:List Nat) (m:Cl) evs an,(∀ a b,0<=(m.shown a b).2)->(m.recovered n q evs an il).au=m.au/\(m.recovered n q evs an il).fly=m.fly/\ ∀ i j,0<=((m.recovered n q evs an il).shown i j).2:=by
  intro il
  induction il with
  | nil=>intro m evs an h;exact ⟨rfl,rfl,h⟩
  | cons i r ih=>
   intro m evs an h;rw [Cl.recovered];exact ih _ evs an (tl m _ _ _ h)
 unfold Cl.recover
 split
 ·exact ⟨rfl,rfl,tl m _ _ _ h⟩
 exact rc _ m _ _ h
theorem afF (h:(m.au n).up=true):m.start n=m:=if_pos h
theorem RS (hX:m.au n=X) (hu:X.up=false) (h:eU (jL X.data X.syn).2.1 (bV X.data X.syn) [0,1,2,3] (jL X.data X.syn).1=none):m.start n=m:=by
 subst hX;unfold Cl.start;rw [if_neg (by rw [hu];simp),h]
theorem abF (hX:m.au n=X) (hu:X.up=false) (h:eU (jL X.data X.syn).2.1 (bV X.data X.syn) [0,1,2,3] (jL X.data X.syn).1=some d):
  m.start n=Cl.woken n (bV X.data X.syn) [0,1,2,3] (m.put n { X.blank with up:=true,data:=d,syn:=((d.length:Nat):Int),bs:=bV X.data X.syn }):=by
 subst hX;unfold Cl.start;rw [if_neg (by rw [hu];simp),h]
def hwl (ws:List BX):List LX:=ws.map λy=>⟨{ evs:=y.b.evs },y.A,y.c⟩
theorem apF (h: ∀ u∈hwl ws++H,PS L u) (hx:ws[k]? =some x):Bv L x:=h ⟨{ evs:=x.b.evs },x.A,x.c⟩ (List.mem_append_left _ (List.mem_map.2 ⟨x,List.mem_of_getElem? hx,rfl⟩))
theorem ajw {P:LX->Prop} (h: ∀ y∈ws,P ⟨{ evs:=y.b.evs },y.A,y.c⟩): ∀ u∈hwl ws++H,u∈H\/P u:=λu hu=>(List.mem_append.1 hu).elim (λh1=>by obtain ⟨y,hy,rfl⟩:=List.mem_map.1 h1;exact .inr (h y hy)) .inl
theorem Bv.more {N:List Fact} (h:Bv L x):Bv (L++N) x:=h.mono λ_ hf=>List.mem_append_left _ hf
theorem afG {K:CK} {B:Nat} {w0 w:World} {fs:List Fact} (h:Wd K B w0 w fs m (hwl ws++H)):Wd K B w0 w fs m H:=by
 obtain ⟨R,G,S⟩:=h;exact ⟨R,⟨G.fly,G.flo,G.mJ,G.arr,λu hu=>G.hld u (List.mem_append_right _ hu)⟩,S⟩
theorem aBb {E N Ls:List Fact} {f:Fact} (h:f∈E):f∈L++((E++N)++Ls):=List.mem_append_right _ (List.mem_append_left _ (List.mem_append_left _ h))
theorem aBd {E Ls:List Fact} {f:Fact} (h:f∈E):f∈L++(E++Ls):=List.mem_append_right _ (List.mem_append_left _ h)
end
theorem TI {K:CK} {B n kn kw:Nat} {w0 w:World} {fs:List Fact} {m:Cl} {H:List LX} (hn:n<5) (hkn:K.nb n=kn) (bY:K.wb=kw) (hu:Uk B w0) (hB1:m.fly.length<=1000000000) (hB2:m.aX.length<=900000000000) (HW:Wd K B w0 w fs m H) (hT:Cw (m.au n).data (m.au n).syn=some (vB (bV (m.au n).data (m.au n).syn))) (hvv: ∀ q,q<4->aj (bV (m.au n).data (m.au n).syn q)=0) (hbz:(uw (jL (m.au n).data (m.au n).syn).1 (jL (m.au n).data (m.au n).syn).2.1).1.length*80<=reachBytes) (hmay: ∀ d,eU (jL (m.au n).data (m.au n).syn).2.1 (bV (m.au n).data (m.au n).syn) [0,1,2,3] (jL (m.au n).data (m.au n).syn).1=some d->dn d (jL (m.au n).data (m.au n).syn).2.1=true) (hsh: ∀ a b,0<=(m.shown a b).2):
    Calls tP 47 #[pV kw 0,pV kn 0] w (λe w'=>e= .returned (.tuple #[])/\Wd K B w0 w' fs (m.start n) H):=by
 obtain ⟨R,G,S0⟩:=HW.open hn;have hfl:R.fx.length=m.fly.length:=by rw [<-G.fly,List.length_map]
 have NG:=G.mJ n hn;obtain ⟨X,hX⟩: ∃ X,m.au n=X:=⟨_,rfl⟩;obtain ⟨z,hz⟩: ∃ z,R.nx n=z:=⟨_,rfl⟩;rw [hX,hz] at S0 NG;have hL: ∀ f∈R.L,f∈fU K R m fs n:=λf h=>List.mem_append_right _ (List.mem_append_right _ h);obtain ⟨rr,hrr⟩: ∃ r,fU K R m fs n=r:=⟨_,rfl⟩;rw [hrr] at S0 hL;have S:St B w0 w (cN kn n X z z.pv (cF kw R m rr)):=by subst hkn;subst bY;exact S0
 clear S0 HW;have hlen:=(S.own 1 rfl).1;rw [iE (sz:=6) (λ_=>rfl)] at hlen;have aBe:z.pv.oneCell'=true:=afA NG.zf;obtain ⟨P1,hP1⟩: ∃ r,jL X.data X.syn=r:=⟨_,rfl⟩;rw [hX] at hT hvv hbz hmay;have HRd:=λw h=>He z.tA z.tc X.data X.syn w h hT hbz;rw [hP1] at HRd hmay;refine gK 113 Tryz.func47 ?_;refine cw [0,1] ?_;refine zN 9 ?_
 cases hb1:(X.up)
 ·refine bg (l':=[(0,pV kw 0),(1,pV kn 0),(18,.bool false)]) EO (bZ rfl (fC (ay (aA (av (vm ?_))))));refine zN 2 ?_;refine vv (ah rfl rfl (dK (cs:=[.slice z.tA X.data.length z.tc,iV X.syn]) (St.rg 0 S rfl (rP)))) ?_;refine dL eQ (HRd _ (NG.xw.rd S (memT 7 rfl hL))) ?_;rintro _ w9 ⟨A2,c3,bB,bs,hbm,hbl,hbc,rfl,T8⟩;refine ⟨_,rfl,?_⟩;have nN:=S.ext T8 (by simp [J3,Fact.Hl]);have rJ:St B w0 w9 ((oB bB bs)::(.bI 1 A2 P1.1.length (byteCells P1.1))::(cN kn n X z z.pv (cF kw R m (rr++eT bs)))):=St.perm nN (List.Perm.cons _ (List.Perm.cons _ (List.perm_append_comm (l₁:=eT bs))));clear S;refine zN 3 ?_;refine fT rJ yI ?_;intro b12 Ce jP;refine stA 0 jP kQ ?_;intro C8 jR;refine zN 6 ?_;refine dL eQ (L6 _ 4 4 (bs.flatMap BX.cells) _ (St.ord 1 jR rfl) (aiY _) dQ) ?_;rintro _ CW ⟨LJ,c18,rfl,aBf,aBg⟩;refine ⟨_,rfl,?_⟩;have iM:=jR.tV aBf aBg;obtain ⟨wB,hWA⟩:=D9 (iM.own 0 rfl) dQ;subst hWA;refine zN 8 ?_;refine fT iM atK ?_;intro zO LG iy;refine stA 0 iy kQ ?_ (h1:=by exact au3 rfl rfl rfl aBe);intro Jh qx;refine zN 6 ?_;refine jE (row':=dF n X.up (.slice A2 P1.1.length c3) P1.2.1 (.slice (aD z.bb 0) 4 4) X.hints X.sure (.slice z.iA z.ix.length z.ic) (z.pv) X.turn) 0 qx kQ ?_;intro XU oW;refine zN 11 ?_;have uq:=oW.aU [2];have lg:St B w0 XU (_::_::_::_::_::_::_::_::_::_::((rr++eT bs)++[.bI 1 A2 P1.1.length (byteCells P1.1)])):=uq.toEnd 3 rfl;have pX:=lg.dZ [9,9,9,9,9,9,9];refine eP (X:=Nat×(Option Addr)×Nat×(List UInt8)×(List BX)×(List Fact)) (λxv=>[(0,pV kw 0),(1,pV kn 0),(5,.slice (aD bB 0) 4 4),(6,.slice (aD wB 0) 4 c18),(7,pV zO 0),(34,.slice (aD bB 0) 4 4),(35,iV 4),(36,iV ((xv.1:Nat):Int))]) (λxv wr=>(xv.1<=4)/\(eU P1.2.1 (bV X.data X.syn) [0,1,2,3] P1.1=eU P1.2.1 (bV X.data X.syn) ((List.range 4).drop xv.1) xv.2.2.2.1)/\(xv.2.2.2.2.1.map BX.b=vB (λj=>if j<xv.1/\((bV X.data X.syn) j).role=1 then (fJ ((bV X.data X.syn) j)).1 else (bV X.data X.syn) j))/\(∀ y∈xv.2.2.2.2.1,Bv (eT bs++xv.2.2.2.2.2) y)/\(Ro xv.2.2.2.2.2 1 xv.2.1 xv.2.2.2.1.length (byteCells xv.2.2.2.1))/\St B w0 wr (cN kn n X z z.pv (cF kw R m ((bN zO n X.up xv.2.1 xv.2.2.2.1 xv.2.2.1 P1.2.1 z.bb X.hints X.sure z.iA z.ix z.ic z.pv X.turn)::(.own 150 6 (.slice (aD wB 0) 4 c18) 4 ((xv.2.2.2.2.1).flatMap BX.cells))::(oB bB bs)::((rr++eT bs)++xv.2.2.2.2.2))))) (λxv=>4-xv.1) (0,A2,c3,P1.1,bs,[.bI 1 A2 P1.1.length (byteCells P1.1)]) ?_ ?_ ?_
  ·exact ⟨Nat.zero_le _,rfl,(by rw [hbm];exact apE),(λy hy=>(Ob hbc y hy).mono λf hf=>List.mem_append_left _ hf),(Ro.bI (List.mem_singleton.2 rfl)),pX⟩
  ·exact TQ
  rintro ⟨k,A9,c9,d9,ws,N9⟩ XV ⟨amI,Qx,Vi,agA,Qo,mX⟩
  try dsimp only at amI Qx Vi agA Qo mX
  refine bg (l':=[(0,pV kw 0),(1,pV kn 0),(5,.slice (aD bB 0) 4 4),(6,.slice (aD wB 0) 4 c18),(7,pV zO 0),(34,.slice (aD bB 0) 4 4),(35,iV 4),(36,iV ((k:Nat):Int))]) TQ (aA (av ?_));by_cases h40:((k:Nat):Int)<4
  ·refine zN 10 ?_;have hk4:k<4:=oQ;obtain ⟨y,hy,Yk⟩:=Uq hbm hk4;have sP:=Ob hbc y (List.mem_of_getElem? hy);obtain ⟨y0,hy0,_⟩:=Uq Vi hk4;have hlw:ws.length=4:=by have:=congrArg List.length Vi;simpa [vB] using this
   have hvk:=hvv k hk4;have hln:=ko (jB hvk);have yC:y.b.evs.length*48<=reachBytes:=by rw [Yk];unfold reachBytes;omega
   have K9:=wM hvk;refine zN 2 ?_;refine vv (kY k) ?_;refine vv (ah rfl rfl (dK (cs:=BX.cells y) (Rd.vG (St.ord 9 mX rfl) (λ_ _ h=>bU (enc:=BX.cells) (sz:=6) (λ_=>rfl) hy h)))) ?_;refine fT mX fM ?_;intro b41 QT qM;refine zQ ?_;refine stA 0 qM kQ ?_;intro QU oP;refine zN 7 ?_;by_cases h46:y.b.role=1
   ·refine zN 7 ?_;obtain ⟨BR,qp⟩: ∃ r,fJ y.b=r:=⟨_,rfl⟩;have HP:=λw h=>Wv y.b.role y.b.ep y.b.fr y.b.tg y.b.rd y.A y.c y.b.evs w h yC;rw [show fJ ⟨y.b.role,y.b.ep,y.b.fr,y.b.tg,y.b.rd,y.b.evs⟩=BR from qp] at HP;refine zN 2 ?_;refine dL eQ (HP _ (sP.1.rd oP (memT 11 rfl (λf hf=>List.mem_append_left _ (List.mem_append_right _ hf))))) ?_;rintro _ Pf ⟨LD,c48,au4,rfl,T52⟩;refine ⟨_,rfl,?_⟩;have uh:=oP.ext T52 rfl;refine zN 3 ?_;refine fT uh fM ?_;intro b53 w54 vI;refine stA 0 vI kQ ?_;intro w56 qN;refine zN 7 ?_;refine cab eQ qN (jk 2 k y _) ?_;intro w58 Bl;refine fT Bl wu ?_;intro b61 Ua uM;refine stA 0 uM kQ ?_;intro Uc yN;refine zN 4 ?_;refine vv (v:= .agg #[iV 4,iV 0,iV 0,iV 0,iV 0,iV 0]) gB ?_;refine zQ ?_;refine jE (row':= #[iV 2,iV ((k:Nat):Int),iV y.b.ep,iV 0,iV 4,iV 0,iV 0,iV 0,iV 0,iV 0]) 0 yN kQ ?_;intro Pg qO;refine zN 4 ?_;by_cases hB:BR.2=0
    ·rcases agB:fG d9 P1.2.1 [fV 2 k y.b.ep 0 cO] with _ | aBh
     ·refine zN 5 ?_;refine iD (V:=λb=> .slice (aD b 0) 1 1) (row:= #[iV 2,iV ((k:Nat):Int),iV y.b.ep,iV 0,iV 4,iV 0,iV 0,iV 0,iV 0,iV 0]) (t:=155) qO (wg rfl rfl rfl rfl) rfl rfl (aS (vs:=[(0,.agg #[iV 2,iV ((k:Nat):Int),iV y.b.ep,iV 0,iV 4,iV 0,iV 0,iV 0,iV 0,iV 0])]) rfl wT kQ) ?_;intro b70 w71 Ca;have tQ:=Ca.dZ [12];refine xS eQ (Mj (rs:=[fV 2 k y.b.ep 0 cO]) agB (Ro.blk (List.mem_iff_getElem?.2 ⟨0,rfl⟩) rfl rfl) Qo (by exact memT 14 rfl λf hf=>List.mem_append_right _ hf) (Nat.le_of_ble_eq_true rfl) tQ) ?_;rintro _ w78 ⟨rfl,zJ⟩;refine ⟨_,rfl,?_⟩;refine zN 13 ?_;have Bg:=zJ.aU [14,13,5,4,3,2,1,0];have tO:=(Bg).PV.PV;have hr1:((bV X.data X.syn) k).role=1:=by rw [<-Yk];omega
      have qR:m.start n=m:=RS hX ‹_› (by rw [hP1,Qx,ng hk4];exact afC hr1 (by rw [<-Yk];exact agB));rw [qR];exact ⟨rfl,Wd.dI (X':=X) (z':=z) (Ls:=[]) (fA:=R.fA) (fc:=R.fc) (fx:=R.fx) (sA:=R.sA) (sc:=R.sc) (tA:=R.tA) (tc:=R.tc) hkn bY hrr G hn tO NG.more (λu hu=> .inl hu) (aH hX).symm G.fly.symm mI⟩
     refine zN 5 ?_;refine iD (V:=λb=> .slice (aD b 0) 1 1) (row:= #[iV 2,iV ((k:Nat):Int),iV y.b.ep,iV 0,iV 4,iV 0,iV 0,iV 0,iV 0,iV 0]) (t:=155) qO (wg rfl rfl rfl rfl) rfl rfl (aS (vs:=[(0,.agg #[iV 2,iV ((k:Nat):Int),iV y.b.ep,iV 0,iV 4,iV 0,iV 0,iV 0,iV 0,iV 0])]) rfl wT kQ) ?_;intro b82 w83 CZ;have Jo:=CZ.dZ [12];refine xS eQ (Mk (rs:=[fV 2 k y.b.ep 0 cO]) agB (Ro.blk (List.mem_iff_getElem?.2 ⟨0,rfl⟩) rfl rfl) Qo (by exact memT 14 rfl λf hf=>List.mem_append_right _ hf) (Nat.le_of_ble_eq_true rfl) Jo) ?_;rintro _ w90 ⟨A86,c87,N88,rfl,au5,LA⟩;refine ⟨_,rfl,?_⟩;refine zN 11 ?_;refine vv (kY k) ?_;refine lZ (xs':=(ws.set k (⟨BR.1,LD,c48⟩:BX)).flatMap BX.cells) 13 LA (wn rfl) rfl rfl rfl rfl rfl rfl wm rfl (aM rfl) (by omega) (by rw [Nat.zero_add];exact qz (enc:=BX.cells) (sz:=6) (λ_=>rfl) (⟨BR.1,LD,c48⟩:BX) _ _ (by omega)) ?_;intro w92 yZ;have aIK:(ws.set k (⟨BR.1,LD,c48⟩:BX))[k]? =some (⟨BR.1,LD,c48⟩:BX):=List.getElem?_set_self oQ;refine zN 4 ?_;refine vv (v:=iV ((k+1:Nat):Int)) j6 ?_;refine zN 2 ?_;have F3:=yZ.aU [5,3,2,1];have EZ:St B w0 w92 (_::_::_::_::_::_::_::_::_::_::((((rr++eT bs)++N9)++N88)++[.bI 6 LD BR.1.evs.length ((BR.1.evs).flatMap Ev.cells)])):=F3.toEnd 1 rfl;have Cc:=EZ.dZ [7,7,7,7,7,7,7];have Bo:=Cc;have hr1:((bV X.data X.syn) k).role=1:=by rw [<-Yk];omega
     have hap:((((rr++eT bs)++N9)++N88)++[.bI 6 LD BR.1.evs.length ((BR.1.evs).flatMap Ev.cells)])=((rr++eT bs)++(N9++(N88++[.bI 6 LD BR.1.evs.length ((BR.1.evs).flatMap Ev.cells)]))):=by simp only [List.append_assoc]
     rw [hap] at Bo;refine bT (k+1,A86,c87,aBh,ws.set k (⟨BR.1,LD,c48⟩:BX),N9++(N88++[.bI 6 LD BR.1.evs.length ((BR.1.evs).flatMap Ev.cells)])) ?_ TQ (by first | omega | (dsimp only;omega));exact ⟨uQ,(by dsimp only;rw [Qx,ng hk4];exact abC hr1 (by rw [<-Yk,qp];exact hB) (by rw [<-Yk];exact agB)),(by dsimp only;rw [List.map_set,Vi];exact abA hk4 hr1 (by rw [<-Yk,qp])),(DX (λu hu=>(agA u hu).mono (λf hf=>(List.mem_append.1 hf).elim (λh=>List.mem_append_left _ h) λh=>List.mem_append_right _ (List.mem_append_left _ h))) ⟨Ro.bI (List.mem_append_right _ (List.mem_append_right _ (List.mem_append_right _ (List.mem_singleton.2 rfl)))),au4⟩),(au5.mono (λf hf=>(List.mem_append.1 hf).elim (λh=>List.mem_append_left _ h) λh=>List.mem_append_right _ (List.mem_append_left _ h))),Bo⟩
    refine zN 20 ?_;have Zd:=qO.aU [13,12,11,3,2,1,0];have rW:=(Zd).PV.PV;have hr1:((bV X.data X.syn) k).role=1:=by rw [<-Yk];omega
    have qR:m.start n=m:=RS hX ‹_› (by rw [hP1,Qx,ng hk4];exact afB hr1 (by rw [<-Yk,qp];exact hB));rw [qR];exact ⟨rfl,Wd.dI (X':=X) (z':=z) (Ls:=[]) (fA:=R.fA) (fc:=R.fc) (fx:=R.fx) (sA:=R.sA) (sc:=R.sc) (tA:=R.tA) (tc:=R.tc) hkn bY hrr G hn rW NG.more (λu hu=> .inl hu) (aH hX).symm G.fly.symm mI⟩
   refine zN 9 ?_;refine vv (v:=iV ((k+1:Nat):Int)) j6 ?_;refine zN 2 ?_;have vS:=oP.aU [0];have sZ:=vS;have hro: ¬ ((bV X.data X.syn) k).role=1:=by rw [<-Yk];assumption
   refine bT (k+1,A9,c9,d9,ws,N9) ?_ TQ (by first | omega | (dsimp only;omega));exact ⟨uQ,(by dsimp only;rw [Qx,ng hk4];exact abB hro),(by dsimp only;rw [Vi];exact abz hro),agA,Qo,sZ⟩
  refine zN 15 ?_;refine jE (row':=dF n true (.slice z.tA X.data.length z.tc) X.syn (.slice (aD z.bb 0) 4 4) X.hints X.sure (.slice z.iA z.ix.length z.ic) (z.pv) X.turn) 0 mX kQ ?_;intro aAc yj;refine zN 5 ?_;refine dL eQ (nD yj hu) ?_;rintro _ Zg ⟨rfl,au6,xX⟩;refine ⟨_,rfl,?_⟩;have uU:=xX.aU [3,2,1];refine zN 6 ?_;refine vv (ah rfl rfl (dK (cs:=[.slice A9 d9.length c9,iV P1.2.1]) (St.rg 5 uU rfl (rP)))) ?_;have hwA:eU P1.2.1 (bV X.data X.syn) [0,1,2,3] P1.1=some d9:=by rw [Qx,List.drop_eq_nil_of_le (by rw [List.length_range];omega)];rfl
  have Fq:=λw h=>AB (oJ A9 d9.length c9 d9 P1.2.1 w h);rw [xJ (hmay _ hwA)] at Fq;refine dL eQ (Fq _ (Qo.rd uU (memT 8 rfl λf hf=>List.mem_append_right _ hf))) ?_;rintro _ Z0 ⟨NH,Qu,rfl,aBi⟩;refine ⟨_,rfl,?_⟩;have vP:=uU.ext aBi rfl;refine zN 5 ?_;refine jE (row':=dF n true (.slice NH d9.length Qu) ((d9.length:Nat):Int) (.slice (aD au6 0) 4 4) (λ_=>nowhere) (λ_=>false) (.slice none 0 0) (.nilFunc) X.turn) 1 vP kQ ?_;intro alJ qQ;refine zN 8 ?_;refine jE (row':=dF n true (.slice NH d9.length Qu) ((d9.length:Nat):Int) (.slice (aD bB 0) 4 4) (λ_=>nowhere) (λ_=>false) (.slice none 0 0) (.nilFunc) X.turn) 1 qQ kQ ?_;intro ar3 zA;refine zN 10 ?_;have hwA:eU P1.2.1 (bV X.data X.syn) [0,1,2,3] P1.1=some d9:=by rw [Qx,List.drop_eq_nil_of_le (by rw [List.length_range];omega)];rfl
  have aBj:k=4:=oQ;have hsp:=Vi;rw [aBj] at hsp;have vR:=zA.aU [6];have tq:=vR.BO 125 23;have qC:=(((((((((tq.bring 7 rfl).bring 2 rfl).bring 7 rfl).bring 7 rfl).bring 7 rfl).bring 7 rfl).bring 6 rfl).bring 8 rfl).bring 8 rfl);rw [show ((rr++eT bs)++N9)=(rr++(eT bs++N9)) from List.append_assoc ..] at qC;obtain ⟨m1,hm1⟩: ∃ k,k=m.put n { X.blank with up:=true,data:=d9,syn:=((d9.length:Nat):Int),bs:=(bV X.data X.syn) }:=⟨_,rfl⟩;have HW1:Wd K B w0 ar3 ((.own 150 6 (.slice (aD wB 0) 4 c18) 4 ((ws).flatMap BX.cells))::fs) m1 (hwl ws++H):=by
   rw [hm1];refine Wd.fin (m:=m) (fs:=(.own 150 6 (.slice (aD wB 0) 4 c18) 4 ((ws).flatMap BX.cells))::fs) (X':={ X.blank with up:=true,data:=d9,syn:=((d9.length:Nat):Int),bs:=(bV X.data X.syn) }) (z':={ bb:=bB,tA:=NH,tc:=Qu,bx:=bs,iA:=none,ic:=0,ix:=[],pv:= .nilFunc }) (N:=eT bs++N9) (Ls:=[.bI 1 NH d9.length (byteCells d9)]) (rr:=(.own 150 6 (.slice (aD wB 0) 4 c18) 4 ((ws).flatMap BX.cells))::rr) (H:=H) (fA:=R.fA) (fc:=R.fc) (fx:=R.fx) (sA:=R.sA) (sc:=R.sc) (tA:=R.tA) (tc:=R.tc) hkn bY (by rw [<-hrr];rfl) G hn qC ⟨hbm,λu hu=>(Ob hbc u hu).mono (λf hf=>aBb hf),Ro.bI (rQ (List.mem_singleton.2 rfl)),rfl,λu hu=>by simp at hu,rfl⟩ (λu hu=> .inl hu) rfl G.fly.symm ?_;exact ajw λy hy=>(agA y hy).mono λf hf=>aBd hf
  have hwo:=abD hwA;have asQ:m1.au n={ X.blank with up:=true,data:=d9,syn:=((d9.length:Nat):Int),bs:=(bV X.data X.syn) }:=by rw [hm1];exact iw _
  refine eP (X:=Nat×Cl) (λxv=>[(0,pV kw 0),(1,pV kn 0),(85,.slice (aD wB 0) 4 c18),(86,iV 4),(87,iV ((xv.1:Nat):Int))]) (λxv wr=>(Wd K B w0 wr ((.own 150 6 (.slice (aD wB 0) 4 c18) 4 ((ws).flatMap BX.cells))::fs) xv.2 (hwl ws++H))/\(Cl.woken n (bV X.data X.syn) [0,1,2,3] m1=Cl.woken n (bV X.data X.syn) ((List.range 4).drop xv.1) xv.2)/\(xv.1<=4)/\(xv.2.fly=m.fly)/\(∀ j,j<4->aj ((xv.2.au n).bs j)=0)/\(∀ j,xv.1<=j->j<4->(xv.2.au n).bs j=(bV X.data X.syn) j)/\(∀ a b,0<=(xv.2.shown a b).2)/\(xv.2.aX.length<=m.aX.length+2001*xv.1)/\St B w0 wr [.own 150 6 (.slice (aD wB 0) 4 c18) 4 ((ws).flatMap BX.cells)]) (λxv=>4-xv.1) (0,m1) ?_ ?_ ?_
  ·exact ⟨HW1,rfl,Nat.zero_le _,by rw [hm1];rfl,λj hj=>by dsimp only;rw [asQ];exact hvv j hj,λj _ _=>by dsimp only;rw [asQ],λa b=>by dsimp only;rw [hm1];exact hsh a b,by dsimp only;rw [hm1];exact Nat.le_refl _,Wd.G8 (gs:=[.own 150 6 (.slice (aD wB 0) 4 c18) 4 ((ws).flatMap BX.cells)]) HW1⟩
  ·exact CS
  rintro ⟨k2,mm⟩ Z8 ⟨acd,Vj,au7,Vk,Lr,Vl,Vm,au8,Cu⟩
  try dsimp only at acd Vj au7 Vk Lr Vl Vm au8 Cu
  refine bg (l':=[(0,pV kw 0),(1,pV kn 0),(85,.slice (aD wB 0) 4 c18),(86,iV 4),(87,iV ((k2:Nat):Int))]) CS ?_;obtain ⟨R3,G3,Ur⟩:=acd.open hn;have RU:=G3.mJ n hn;obtain ⟨X3,BK⟩: ∃ X,mm.au n=X:=⟨_,rfl⟩;obtain ⟨z3,hz3⟩: ∃ z,R3.nx n=z:=⟨_,rfl⟩;rw [BK,hz3] at Ur RU;obtain ⟨Yl,IY⟩: ∃ r,fU K R3 mm fs n=r:=⟨_,rfl⟩;have aIL:R3.fx.length=mm.fly.length:=by rw [<-G3.fly,List.length_map]
  have yt:St B w0 Z8 (cN kn n X3 z3 z3.pv (cF kw R3 mm ((.own 150 6 (.slice (aD wB 0) 4 c18) 4 ((ws).flatMap BX.cells))::Yl))):=by rw [<-IY];subst hkn;subst bY;exact Ur
  clear Ur;have hlen3:=(yt.own 1 rfl).1;rw [iE (sz:=6) (λ_=>rfl)] at hlen3;rw [BK] at Lr Vl;refine zN 2 ?_;by_cases aIM:((k2:Nat):Int)<4
  ·refine zN 10 ?_;have hk4:k2<4:=oQ;obtain ⟨x,hx,hxs⟩:=Uq hsp hk4;refine zN 2 ?_;refine vv (kY k2) ?_;refine vv (ah rfl rfl (dK (cs:=BX.cells x) (Rd.vG (St.ord 7 yt rfl) (λ_ _ h=>bU (enc:=BX.cells) (sz:=6) (λ_=>rfl) hx h)))) ?_;refine fT yt fM ?_;intro amJ aqT K8;refine zQ ?_;refine sa 0 K8 kQ ?_;intro ZO Er;refine zN 7 ?_;by_cases aIN:x.b.role=1
   ·refine zN 11 ?_;have FZ:=Er.dZ [7,7,7,7,7,7,7];have au9:=Wd.dI (m:=mm) (m':=mm) (H:=hwl ws++H) (H':=hwl ws++H) (fs:=(.blk amJ (bR x.b x.A x.c) 150)::(.own 150 6 (.slice (aD wB 0) 4 c18) 4 ((ws).flatMap BX.cells))::fs) (X':=X3) (z':=z3) (Ls:=[]) (fA:=R3.fA) (fc:=R3.fc) (fx:=R3.fx) (sA:=R3.sA) (sc:=R3.sc) (tA:=R3.tA) (tc:=R3.tc) (rr:=(.blk amJ (bR x.b x.A x.c) 150)::(.own 150 6 (.slice (aD wB 0) 4 c18) 4 ((ws).flatMap BX.cells))::Yl) hkn bY (by rw [<-IY];rfl) G3 hn FZ RU.more (λu hu=> .inl hu) (aH BK).symm G3.fly.symm mI;refine dL eQ (Js hn hkn bY hu (by rw [Vk];exact hB1) oQ hk4 au9 (by rw [BK];exact Lr) (Vm n k2)) ?_;rintro _ aBk ⟨rfl,ak2⟩;refine ⟨_,rfl,?_⟩;have MG:=Fv mm n k2 (Vm);have hrs:=(Fu (n:=n) (q:=k2) mm (by rw [BK];exact ko (jB (Lr k2 hk4)))).2;obtain ⟨mc,hmc⟩: ∃ k,k=mm.recover n k2:=⟨_,rfl⟩;rw [<-hmc] at ak2 MG hrs;obtain ⟨R5,G5,S05⟩:=ak2.open hn;have NG5:=G5.mJ n hn;obtain ⟨X5,hX5⟩: ∃ X,mc.au n=X:=⟨_,rfl⟩;obtain ⟨z5,hz5⟩: ∃ z,R5.nx n=z:=⟨_,rfl⟩;rw [hX5,hz5] at S05 NG5;obtain ⟨rr5,asR⟩: ∃ r,fU K R5 mc fs n=r:=⟨_,rfl⟩;have aIO:R5.fx.length=mc.fly.length:=by rw [<-G5.fly,List.length_map]
    have UG:St B w0 aBk (cN kn n X5 z5 z5.pv (cF kw R5 mc ((.blk amJ (bR x.b x.A x.c) 150)::(.own 150 6 (.slice (aD wB 0) 4 c18) 4 ((ws).flatMap BX.cells))::rr5))):=by rw [<-asR];subst hkn;subst bY;exact S05
    clear S05;have ava:=(UG.own 1 rfl).1;rw [iE (sz:=6) (λ_=>rfl)] at ava;obtain ⟨y5,hy5,aIP,aIQ⟩:=NG5.at_ hk4;refine zN 3 ?_;have UJ:=UG.drew;refine eZ 8 6 UJ [] ?_;iterate 6 refine gP ?_
    refine eB kQ rfl rfl rfl ?_;refine vv (kY k2) ?_;refine lZ (xs':=(z5.bx.set k2 (⟨x.b,x.A,x.c⟩:BX)).flatMap BX.cells) 1 UJ (wn rfl) rfl rfl rfl rfl rfl rfl wm rfl (aM rfl) (by omega) (by rw [Nat.zero_add];exact qz (enc:=BX.cells) (sz:=6) (λ_=>rfl) (⟨x.b,x.A,x.c⟩:BX) _ _ (by omega)) ?_;intro aAz Iu;have hy153:(z5.bx.set k2 (⟨x.b,x.A,x.c⟩:BX))[k2]? =some (⟨x.b,x.A,x.c⟩:BX):=List.getElem?_set_self oQ;refine zQ ?_;refine iX ?_;refine zN 5 ?_;refine vv (v:= .agg #[iV 4,iV 0,iV 0,iV 0,iV 0,iV 0]) gB ?_;refine zQ ?_;refine dL eQ (nC hn hk4 hy153 cO iH (-1) Iu oQ) ?_;rintro _ aBl ⟨rfl,aBm,aBn,aDA,avb,aBo⟩;refine ⟨_,rfl,?_⟩;subst avb;have Nf:=aBo.aU [7];have hr1:((bV X.data X.syn) k2).role=1:=afE hxs oQ;have hxb:x.b=oF ((bV X.data X.syn) k2):=by rw [hxs,if_pos ⟨hk4,hr1⟩,(hwo k2 hk4 hr1).2]
    obtain ⟨md,hmd⟩: ∃ k,k=(mc.eO n k2 x.b).tell n k2 cO iH (-1):=⟨_,rfl⟩;have aBp:md=((mm.recover n k2).eO n k2 (fJ ((bV X.data X.syn) k2)).1).tell n k2 cO iH (-1):=by rw [hmd,hmc,hxb,(hwo k2 hk4 hr1).2]
    have abG:md={ mc.put n (X5.eO k2 x.b) with aX:=mc.aX++[⟨n,k2,x.b.ep,cO,iH,-1⟩],shown:=oz mc.shown n k2 (x.b.ep,(x.b.evs.length:Int)) }:=by rw [hmd];exact abE hX5
    have aBq:md.fly=mm.fly:=by rw [abG];exact MG.2.1
    have hnm:(mc.au n)=X3:=by rw [MG.1,BK]
    have asS:X5=X3:=by rw [<-hX5];exact hnm
    have asT:md.au n=X5.eO k2 x.b:=by rw [abG];exact iw _
    have aBr: ∀ j,j<4->aj ((md.au n).bs j)=0:=λj hj=>by rw [asT];exact ajv (by rw [asS];exact Lr) (by rw [hxb];exact (hwo k2 hk4 hr1).1) j hj
    have aBs: ∀ j,k2+1<=j->j<4->(md.au n).bs j=(bV X.data X.syn) j:=λj h1 h2=>by rw [asT,asS];exact (upd_ne oQ).trans (Vl j oQ h2)
    have aBt: ∀ a b,0<=(md.shown a b).2:=by rw [abG];exact IX (a:=n) (q:=k2) (e:=x.b.ep) (l:=x.b.evs) MG.2.2
    have aIR:md.aX.length=mc.aX.length+1:=by rw [abG];exact List.length_append ..
    clear hmd;have ak3:Wd K B w0 aBl ((.own 150 6 (.slice (aD wB 0) 4 c18) 4 ((ws).flatMap BX.cells))::fs) md (hwl ws++H):=by
     rw [abG];exact Wd.dI (m:=mc) (H:=hwl ws++H) (fs:=(.own 150 6 (.slice (aD wB 0) 4 c18) 4 ((ws).flatMap BX.cells))::fs) (X':=X5.eO k2 x.b) (z':={ z5 with bx:=z5.bx.set k2 (⟨x.b,x.A,x.c⟩:BX) }) (Ls:=[]) (fA:=R5.fA) (fc:=R5.fc) (fx:=R5.fx) (sA:=aBm) (sc:=aBn) (tA:=R5.tA) (tc:=R5.tc) (rr:=(.own 150 6 (.slice (aD wB 0) 4 c18) 4 ((ws).flatMap BX.cells))::rr5) hkn bY (by rw [<-asR];rfl) G5 hn Nf (dM.akT (Y:=x) NG5.more hk4 (apF G5.hld hx).more) (λu hu=> .inl hu) rfl G5.fly.symm mI
    refine zN 4 ?_;refine vv (v:=iV ((k2+1:Nat):Int)) j6 ?_;refine zN 2 ?_;refine bT (k2+1,md) ?_ CS (by first | omega | (dsimp only;omega));exact ⟨ak3,(by dsimp only;rw [Vj,ng hk4];exact Xd hr1 aBp),uQ,(by dsimp only;rw [aBq];exact Vk),(by dsimp only;exact aBr),(by dsimp only;exact aBs),(by dsimp only;exact aBt),uQ,(Wd.G8 (gs:=[.own 150 6 (.slice (aD wB 0) 4 c18) 4 ((ws).flatMap BX.cells)]) ak3)⟩
   refine zN 9 ?_;refine vv (v:=iV ((k2+1:Nat):Int)) j6 ?_;refine zN 2 ?_;have Iw:=Er.aU [0];have Vn:=Wd.dI (m:=mm) (m':=mm) (H:=hwl ws++H) (H':=hwl ws++H) (fs:=(.own 150 6 (.slice (aD wB 0) 4 c18) 4 ((ws).flatMap BX.cells))::fs) (X':=X3) (z':=z3) (Ls:=[]) (fA:=R3.fA) (fc:=R3.fc) (fx:=R3.fx) (sA:=R3.sA) (sc:=R3.sc) (tA:=R3.tA) (tc:=R3.tc) (rr:=(.own 150 6 (.slice (aD wB 0) 4 c18) 4 ((ws).flatMap BX.cells))::Yl) hkn bY (by rw [<-IY];rfl) G3 hn Iw RU.more (λu hu=> .inl hu) (aH BK).symm G3.fly.symm mI;have hro: ¬ ((bV X.data X.syn) k2).role=1:=afD (hwo k2 hk4) hxs ‹_›;refine bT (k2+1,mm) ?_ CS (by first | omega | (dsimp only;omega));exact ⟨Vn,(by dsimp only;rw [Vj,ng hk4];exact Xc hro),uQ,Vk,(by dsimp only;rw [BK];exact Lr),(by dsimp only;rw [BK];exact λj h1 h2=>Vl j oQ h2),Vm,uQ,(Wd.G8 (gs:=[.own 150 6 (.slice (aD wB 0) 4 c18) 4 ((ws).flatMap BX.cells)]) Vn)⟩
  refine zN 10 ?_;have qR:m.start n=mm:=by rw [abF hX ‹_› (by rw [hP1];exact hwA),<-hm1,Vj,List.drop_eq_nil_of_le (by rw [List.length_range];omega)];rfl
  rw [qR];exact ⟨rfl,afG (Wd.less (gs:=[.own 150 6 (.slice (aD wB 0) 4 c18) 4 ((ws).flatMap BX.cells)]) acd)⟩
 refine bg (l':=[(0,pV kw 0),(1,pV kn 0),(18,.bool true)]) EO (dO rfl (fP (aO (bQ (rs:=[]) (vs:=[]) rfl trivial ?_))));have qR:m.start n=m:=afF (by rw [hX];assumption);rw [qR];exact ⟨rfl,Wd.dI (X':=X) (z':=z) (Ls:=[]) (fA:=R.fA) (fc:=R.fc) (fx:=R.fx) (sA:=R.sA) (sc:=R.sc) (tA:=R.tA) (tc:=R.tc) hkn bY hrr G hn S NG.more (λu hu=> .inl hu) (aH hX).symm G.fly.symm mI⟩
section
variable {X:Nd} {m:Cl} {n k q:Nat} {p:fO}
theorem Gg.qW (h:Gg X): ∀ q,q<4->aj (X.bs q)=0:=by
 rcases h with ⟨_,rs,us,h⟩ | ⟨_,rs,t,f,h⟩
 ·exact h.qW
 exact h.bz
theorem Gg.tp (h:Gg X): ∃ rs t f,X.data=dh rs++t/\(firstM t).2=0/\iN rs f/\(∀ q,q<4->aj (f q)=0)/\X.data.length<=100000/\0<=X.syn/\X.syn<=X.data.length:=by
 rcases h with ⟨_,rs,us,h⟩ | ⟨_,rs,t,f,h⟩
 ·have hd:=h.data;have hl:=congrArg List.length hd;rw [lN,List.length_append] at hl;have hs:=h.syn
  cases hp:X.pend with
  | none=>
   have hu:=h.pnn hp;refine ⟨rs,[],_,by rw [hd,hu,List.append_nil,List.append_nil],xq,h.tape,λq hq=>(Ul h.qW hq).1,h.len,by omega,by omega⟩
  | some p=>
   obtain ⟨h1,h2,h3⟩:=h.pns p hp;obtain ⟨h4,h5⟩:=xA h.tape h.qW h2 h3;rw [<-h1] at h4;refine ⟨rs++us,[],_,by rw [hd,List.append_nil],xq,h4,λq hq=>?_,h.len,by omega,by omega⟩;refine uD ?_;by_cases e:q=p.q
   ·rw [e,upd_same];exact h5
   rw [upd_ne e];exact h.qW q hq
 exact ⟨rs,t,f,h.data,h.asa,h.tape,λq hq=>(h.qW q hq).1,h.len,h.syn.1,h.syn.2⟩
theorem Gg.may (h:Gg X):dn X.data X.syn=true:=by
 obtain ⟨rs,t,f,_,_,_,_,h1,h2,h3⟩:=h.tp;simp only [dn,Bool.and_eq_true,decide_eq_true_eq];exact ⟨⟨h1,h2⟩,h3⟩
theorem Gg.aBu (h:Gg X) {rs:List dH} {d:List UInt8} (hw:fG X.data X.syn rs=some d):dn d X.syn=true:=by
 obtain ⟨_,_,_,_,_,_,_,h1,h2,h3⟩:=h.tp;obtain ⟨w1,_,w3⟩:=wP hw;have:=w3 h1;have hl:=congrArg List.length w1;rw [List.length_append] at hl;simp only [dn,Bool.and_eq_true,decide_eq_true_eq];omega
theorem Gg.fit (h:Gg X) (hp:X.pend=some p):p.fit/\dn X.data X.syn=true:=by
 refine ⟨?_,h.may⟩
 rcases h with ⟨_,rs,us,h⟩ | ⟨_,rs,t,f,h⟩
 ·obtain ⟨h1,h2,h3⟩:=h.pns p hp;obtain ⟨h4,h5⟩:=xA h.tape h.qW h2 h3
  cases p with
  | serve q evs op num a=>exact ⟨h3,ko h2.2.2.2⟩
  | begun q b=>exact h3
  | got q b last=>exact h3
  | jU q b at_=>exact ⟨h3,h5⟩
  | forget q b=>exact h3
 rw [h.zf] at hp;cases hp
theorem OE {s:Int} {f:Nat->bK}: ∀ (ql:List Nat) {d d':List UInt8},eU s f ql d=some d'->d.length<=d'.length/\(d.length<=100000->d'.length<=100000)
 | [],d,d',h=>by cases h;exact ⟨Nat.le_refl _,id⟩
 | q::r,d,d',h=>by
  rw [eU] at h
  split at h
  ·exact OE r h
  split at h
  ·cases h
  split at h
  ·cases h
  rename_i d2 hw
  obtain ⟨w1,_,w3⟩:=wP hw;obtain ⟨h1,h2⟩:=OE r h;rw [w1,List.length_append] at h1;exact ⟨by omega,λh0=>h2 (w3 h0)⟩
theorem Ym: ∀ (rs:List dH),6*rs.length<=(dh rs).length
 | []=>by simp [dh]
 | r::rs=>by
  have h1:=(Rn r).1;have h2:=Ym rs;have e:dh (r::rs)=nK r++dh rs:=by simp [dh,List.flatMap_cons]
  rw [e,List.length_append,List.length_cons];omega
theorem Gg.Qe (h:Gg X):Cw X.data X.syn=some (vB (bV X.data X.syn))/\(∀ q,q<4->aj (bV X.data X.syn q)=0)/\(uw (jL X.data X.syn).1 (jL X.data X.syn).2.1).1.length*80<=reachBytes/\
  (∀ d,eU (jL X.data X.syn).2.1 (bV X.data X.syn) [0,1,2,3] (jL X.data X.syn).1=some d->dn d (jL X.data X.syn).2.1=true):=by
 obtain ⟨rs,t,f,hd,ht,hT,hb,h1,h2,h3⟩:=h.tp;obtain ⟨r1,r2,r3⟩:=hT.read hd ht h1 h2 h3;have hl:(dh rs).length<=X.data.length:=by rw [hd,List.length_append];omega
 have hg:=Ym rs;refine ⟨by rw [r2,zW λq hq=>(r3 q hq).symm],λq hq=>by rw [r3 q hq];exact hb q hq,?_,λd hw=>?_⟩
 ·rw [r1];unfold uw;rw [if_pos (by simp [dn];omega)];have:=yu (t:=[]) hT.1 xq;rw [List.append_nil] at this;dsimp only;rw [this];unfold reachBytes;dsimp only;omega
 rw [r1] at hw⊢;obtain ⟨g1,g2⟩:=OE _ hw;dsimp only at g1 g2 hw⊢;have g3:=g2 oQ;simp only [dn,Bool.and_eq_true,decide_eq_true_eq];omega
theorem oG.tgt {l:iO} (h:oG l): ∃ j,j<5/\(l.tg= -1\/l.tg= -2\/l.tg=((j:Nat):Int)):=by
 obtain ⟨_,_,h1 | h1 | h1,_⟩:=h
 ·exact ⟨0,by omega,.inl h1⟩
 ·exact ⟨0,by omega,.inr (.inl h1.1)⟩
 exact ⟨l.tg.toNat,by omega,.inr (.inr oQ)⟩
theorem gu.fl {T S D K:Nat} (h:gu m T S D K):m.fly.length<=T:=by
 have:=N7 m (n:=0) oQ;have:=h.room;omega
theorem gu.il {T S D K:Nat} (h:gu m T S D K) (hn:n<5):(m.au n).inbox.length<=T:=by
 have:=N7 m hn;have:=h.room;omega
theorem gu.fi {T S D K:Nat} (h:gu m T S D K) (hn:n<5):m.fly.length+(m.au n).inbox.length<=T:=by
 have:=N7 m hn;have:=h.room;omega
end
def ShN (m:Cl):Prop:= ∀ a b,0<=(m.shown a b).2
section
variable {m m':Cl} {n q:Nat} {l:iO}
theorem ShN.of (h:ShN m) (e:m'.shown=m.shown):ShN m':=λa b=>by rw [e];exact h a b
theorem ShN.tell {e:Ev} {a:jo} {u:Int} (h:ShN m):ShN (m.tell n q e a u):=IX h
theorem ShN.done {op:Ev} {u:Int} {a:jo} (h:ShN m):ShN (m.done n q op u a):=by
 unfold Cl.done
 split
 ·exact (h.tell (n:=n) (q:=q) (e:=op) (a:=a) (u:=u)).of rfl
 exact h.of rfl
theorem ShN.part {a:Int} (h:ShN m):ShN (m.part n q a):=by
 unfold Cl.part
 split
 ·exact h
 exact h.of rfl
theorem ShN.serve (h:ShN m):ShN (m.serve n l):=by
 unfold Cl.serve
 split
 ·exact h.done
 split
 ·exact h.done
 exact h.of rfl
theorem ShN.handle (h:ShN m):ShN (m.handle n l):=by
 unfold Cl.handle
 split
 ·exact h.serve
 split
 ·unfold Cl.offered
  split
  ·exact h
  split
  ·exact h.of rfl
  split
  ·exact h
  exact h.of rfl
 split
 ·unfold Cl.caught
  split
  ·exact h
  split
  ·exact h
  split
  ·exact ShN.part (h.of rfl)
  split
  ·exact h
  exact h.of rfl
 split
 ·unfold Cl.got
  split
  ·exact h
  split
  ·exact h.of rfl
  split
  ·exact h
  split
  ·exact h
  exact h.of rfl
 unfold Cl.learnt
 split
 ·exact h.of rfl
 split
 ·exact h.of rfl
 exact h.of rfl
theorem ShN.drain: ∀ (ls:List iO) {m:Cl},ShN m->ShN (Cl.drain n ls m)
 | [],m,h=>h
 | l::r,m,h=>by
  rw [Cl.drain];have h1:ShN ((m.put n { m.au n with inbox:=r }).handle n l):=ShN.handle (h.of rfl)
  split
  ·exact ShN.drain r h1
  exact h1
theorem ShN.ze {p:fO} (h:ShN m):ShN (m.ze n p):=by
 cases p with
 | serve q evs op num a=>exact ShN.done (h.of rfl)
 | begun q b=>exact h.of rfl
 | got q b last=>
  unfold Cl.ze;dsimp only
  split
  ·exact ShN.tell (h.of rfl)
  exact h.of rfl
 | jU q b a=>exact ShN.part (h.of rfl)
 | forget q b=>exact h.of rfl
theorem ShN.step (h:ShN m):ShN (m.step n):=by
 unfold Cl.step
 split
 ·exact h
 split
 ·exact ShN.ze (h.of rfl)
 split
 ·exact (h.drain _).of rfl
 exact h.drain _
theorem ShN.come (h:ShN m):ShN (m.come l):=by
 unfold Cl.come
 split
 ·exact h.of rfl
 split
 ·split<;>exact h.of rfl
 split
 ·exact h.of rfl
 exact h
theorem ShN.comes: ∀ (ls:List iO) {m:Cl},ShN m->ShN (ls.foldl Cl.come m)
 | [],_,h=>h
 | _::ls,_,h=>ShN.comes ls h.come
theorem ShN.recover (h:ShN m):ShN (m.recover n q):=(Fv m n q h).2.2
theorem ShN.woken {bs:Nat->bK}: ∀ (ql:List Nat) {m:Cl},ShN m->ShN (Cl.woken n bs ql m)
 | [],_,h=>h
 | q::r,m,h=>by
  rw [Cl.woken]
  split
  ·exact ShN.woken r h
  exact ShN.woken r (ShN.tell ((h.recover (n:=n) (q:=q)).of rfl))
theorem ShN.act {a:Ac} (h:ShN m):ShN (m.act a):=by
 unfold Cl.act
 split
 ·unfold Cl.make
  split
  ·exact h
  split
  ·exact h
  split
  ·exact h
  exact IX (l:=[]) h
 split
 ·exact h.of rfl
 split
 ·exact h.step
 split
 ·unfold Cl.pick
  split
  ·exact h
  dsimp only
  split
  ·refine ShN.come ?_
   split
   ·exact h
   exact h.of rfl
  split
  ·exact h
  exact h.of rfl
 split
 ·exact ShN.comes _ (h.of rfl)
 split
 ·unfold Cl.crash
  split
  ·exact h.of rfl
  exact h
 split
 ·unfold Cl.start
  split
  ·exact h
  split
  ·exact h
  exact ShN.woken _ (h.of rfl)
 unfold Cl.move
 split
 ·exact h
 split
 ·exact h.of rfl
 exact h
end
section
variable {m mm:Cl} {n q k:Nat} {a:Ac} {PW:Pl×Int} {T S D K:Nat} {x:iO} {fl:List iO}
theorem ajx (h:bO m.off q=PW): ∃ nn,nn<5/\(PW.2=0->PW.1.node=((nn:Nat):Int)):=by
 subst h;by_cases c:(bO m.off q).2=0
 ·obtain ⟨h1,h2,_⟩:=KP (λh=>h c);exact ⟨_,h1,λ_=>by omega⟩
 exact ⟨0,by omega,λh=>absurd h c⟩
theorem afH (h:gu m T S D K):gu { m with fly:=[] } (T+0) S (D+0) K:=by
 refine ⟨h.mJ,λl hl=>(by simp at hl),h.u7,?_,h.aX,h.bF,h.turn,h.calls⟩;have:=h.room;unfold Cl.tot at this⊢;dsimp only [List.length_nil];omega
theorem afI (h:fl[k]? =some x):(fl.drop k).foldl Cl.come mm=(fl.drop (k+1)).foldl Cl.come (mm.come x):=by rw [drop_cons h,List.foldl_cons]
theorem afJ (h:a.kd=1) (hn:a.nd=((n:Nat):Int)) (hq:a.qu=((q:Nat):Int)):m.act a=m.make n q:=by
 unfold Cl.act;rw [if_pos h,hn,hq,Int.toNat_natCast,Int.toNat_natCast]
theorem afK (h:a.kd=2) (hq:a.qu=((q:Nat):Int)):m.act a={ m with fly:=m.fly++[UW a.nd q a.op m.calls],calls:=m.calls+1 }:=by
 unfold Cl.act;rw [if_neg oQ,if_pos h,hq,Int.toNat_natCast]
theorem afL (h:a.kd=3) (hn:a.nd=((n:Nat):Int)):m.act a=m.step n:=by
 unfold Cl.act;rw [if_neg oQ,if_neg oQ,if_pos h,hn,Int.toNat_natCast]
theorem J7 (h:a.kd=4\/a.kd=5\/a.kd=6):m.act a=m.pick a.at_.toNat (decide (a.kd≠5)) (decide (a.kd=6)):=by
 unfold Cl.act;rw [if_neg oQ,if_neg oQ,if_neg oQ,if_pos h]
theorem ajy (h:a.kd=4):m.act a=m.pick a.at_.toNat true false:=by rw [J7 (.inl h),h];rfl
theorem ajz (h:a.kd=5):m.act a=m.pick a.at_.toNat false false:=by rw [J7 (.inr (.inl h)),h];rfl
theorem ajA (h:a.kd=6):m.act a=m.pick a.at_.toNat true true:=by rw [J7 (.inr (.inr h)),h];rfl
theorem ajB (h:a.kd=7):m.act a=m.all:=by
 unfold Cl.act;rw [if_neg oQ,if_neg oQ,if_neg oQ,if_neg oQ,if_pos h]
theorem Oc (h:a.kd=8) (hn:a.nd=((n:Nat):Int)):m.act a=m.crash n a.kp:=by
 unfold Cl.act;rw [if_neg oQ,if_neg oQ,if_neg oQ,if_neg oQ,if_neg oQ,if_pos h,hn,Int.toNat_natCast]
theorem abH (h:a.kd=9) (hn:a.nd=((n:Nat):Int)):m.act a=m.start n:=by
 unfold Cl.act;rw [if_neg oQ,if_neg oQ,if_neg oQ,if_neg oQ,if_neg oQ,if_neg oQ,if_pos h,hn,Int.toNat_natCast]
theorem abI (h:a.kd≠1) (h2:a.kd≠2) (h3:a.kd≠3) (h4:a.kd≠4) (h5:a.kd≠5) (h6:a.kd≠6) (h7:a.kd≠7) (h8:a.kd≠8) (h9:a.kd≠9) (hq:a.qu=((q:Nat):Int)):m.act a=m.move q a.nd:=by
 unfold Cl.act;rw [if_neg h,if_neg h2,if_neg h3,if_neg oQ,if_neg h7,if_neg h8,if_neg h9,hq,Int.toNat_natCast]
theorem afM (h:(m.au n).up=true) {kp:Int}:m.crash n kp=m.put n ((m.au n).crashed kp):=if_pos h
theorem abJ (h:(m.au n).up=false) {kp:Int}:m.crash n kp=m:=by
 unfold Cl.crash;rw [if_neg (by rw [h];simp)]
end
theorem afN {K:CK} {B n kn kw:Nat} {w0 w:World} {fs:List Fact} {m:Cl} {H:List LX} {q k:Nat} {a:Ac} (hn:n<5) (hq:q<4) (hnd:a.nd=((n:Nat):Int)) (hqd:a.qu=((q:Nat):Int)) (hkn:K.nb n=kn) (bY:K.wb=kw) (hu:Uk B w0) (HW:Wd K B w0 w fs m H) (qG:gu m (4*k) (500000*k) (500000*k) k) (hk:k<=100000) (ha:abj a) (hsh:ShN m):
    Calls Tryz.prog 28 #[pV kw 0,.agg (aR a)] w (λe w'=>e= .returned (.tuple #[])/\Wd K B w0 w' fs (m.act a) H):=by
 obtain ⟨R,G,S0⟩:=HW.open hn;have hfl:R.fx.length=m.fly.length:=by rw [<-G.fly,List.length_map]
 have NG:=G.mJ n hn;obtain ⟨X,hX⟩: ∃ X,m.au n=X:=⟨_,rfl⟩;obtain ⟨z,hz⟩: ∃ z,R.nx n=z:=⟨_,rfl⟩;rw [hX,hz] at S0 NG;have hL: ∀ f∈R.L,f∈fU K R m fs n:=λf h=>List.mem_append_right _ (List.mem_append_right _ h);obtain ⟨rr,hrr⟩: ∃ r,fU K R m fs n=r:=⟨_,rfl⟩;rw [hrr] at S0 hL;have S:St B w0 w ((bN kn n X.up z.tA X.data z.tc X.syn z.bb X.hints X.sure z.iA z.ix z.ic z.pv X.turn)::(oB z.bb z.bx)::(fL z.iA z.ix z.ic)::(bW kw (.slice R.nA 5 R.nc) m.off R.fA R.fx R.fc m.shown R.sA m.aX R.sc R.tA m.bF R.tc m.calls)::(oL R.fA R.fx R.fc)::(oS R.sA m.aX R.sc)::(oT R.tA m.bF R.tc)::rr):=by subst hkn;subst bY;exact S0
 clear S0 HW;have hlen:=(S.own 1 rfl).1;rw [iE (sz:=6) (λ_=>rfl)] at hlen;obtain ⟨ab,ao,qF⟩:=BF G.arr S (memT 7 rfl hL);have harr:=G.arr;rw [qF] at S harr;have hcl:=qG.calls;have aIS:=qG.fl;have amK:a.at_=((a.at_.toNat:Nat):Int):=by have:=ha.at_;omega
 refine gK 144 Tryz.func28 ?_;refine cw [0,1] ?_;refine zN 2 ?_;refine iT S ?_;intro b1 w2 S3;refine zN 11 ?_;by_cases h4:a.kd=1
 ·refine zN 5 ?_;have S5:St B w0 w2 [.blk b1 (aR a) 53]:=S3.sub (List.Sublist.cons_cons _ (List.nil_sublist _));have Ut:=S3.drew;have S6:=S5.drew;refine aF 12 S6 [] ?_;refine aI 5 ?_;refine ak (v:=iV ((n:Nat):Int)) 6 rfl S6 (λ_ amC=>(BG hnd (ah rfl rfl (aG (St.cl 0 amC rfl rfl))))) ?_;refine dJ ?_;refine ak (v:=iV ((q:Nat):Int)) 10 rfl S6 (λ_ Zq=>(BG hqd (ah rfl rfl (aG (St.cl 0 Zq rfl rfl))))) ?_;refine aY 4 ?_;refine je (i:=4) rfl rfl (v:= .slice (aD ab ao) 5 R.nc) (wn rfl) rfl rfl (ah rfl rfl (aG (St.cl 4 Ut rfl zy))) ?_;refine dJ ?_;refine ak 7 rfl S6 (λ_ _=>kY n) ?_;refine aY 8 ?_;refine je (i:=8) rfl rfl (v:=pV kn 0) (wn rfl) rfl rfl (ah rfl rfl (aG (hkn▸vC harr hn Ut (memT 8 rfl hL)))) ?_;refine dJ ?_;refine aY 11 ?_;have jR:=Ut.dZ [7,7,7,7,7,7,7];have iU:=jR;rw [<-qF] at iU;have amH:=Wd.dI (m:=m) (m':=m) (H:=H) (H':=H) (fs:=(.blk b1 (aR a) 53)::fs) (X':=X) (z':=z) (Ls:=[]) (fA:=R.fA) (fc:=R.fc) (fx:=R.fx) (sA:=R.sA) (sc:=R.sc) (tA:=R.tA) (tc:=R.tc) (rr:=(.blk b1 (aR a) 53)::rr) hkn bY (by rw [<-hrr]<;>rfl) G hn iU NG.more (λu hu=> .inl hu) (aH hX).symm G.fly.symm mI;refine j5 11 rfl eQ (WW hn hkn bY hu (by have:=qG.fl;omega) (by have:=qG.aX;omega) hq amH (qG.mJ n hn).qW (λrs d h=>(qG.mJ n hn).aBu h)) ?_;rintro _ Pt ⟨rfl,asU⟩;refine ⟨_,rfl,?_⟩;have nO:=Wd.G8 (gs:=[.blk b1 (aR a) 53]) asU;refine aI 2 ?_;refine aK (l':=[]) trivial (dz (nZ ?_));rw [afJ ‹_› hnd hqd];exact ⟨rfl,(Wd.less (gs:=[.blk b1 (aR a) 53]) asU)⟩
 refine zN 7 ?_;by_cases h22:a.kd=2
 ·refine zN 6 ?_;have kS:=S3.dZ [5,5];have jq:=kS.drew;refine aF 14 jq [1,0] ?_;refine aI 4 ?_;refine ak (v:=iV ((q:Nat):Int)) 4 rfl (jq.mg [1,0]) (λ_ aa2=>(BG hqd (ah rfl rfl (aG (St.cl 0 aa2 rfl rfl))))) ?_;refine dJ ?_;refine ak (v:= .agg #[iV a.ek,iV a.ep,iV a.ei,iV a.eb,iV a.eh,iV a.en]) 6 rfl (jq.mg [1,0]) (λ_ Zt=>(ah rfl rfl (dK (cs:=[iV a.ek,iV a.ep,iV a.ei,iV a.eb,iV a.eh,iV a.en]) (St.rg 0 Zt rfl (l8 (x:=5) (m:=6) rfl))))) ?_;refine aI 4 ?_;refine aY 11 ?_;refine je (i:=11) rfl rfl (v:=iV ((m.calls:Nat):Int)) (wn rfl) rfl rfl (ah rfl rfl (aG (St.cl 0 jq rfl akC))) ?_;refine dJ ?_;refine ak (v:= .agg #[iV 0,iV (-1),iV a.nd,iV ((q:Nat):Int),iV 0,iV 0,iV 0,iV a.ek,iV a.ep,iV a.ei,iV a.eb,iV a.eh,iV a.en,.slice none 0 0,.bool false,iV ((m.calls:Nat):Int),iV 0,iV 0,iV 0,iV 0,iV 0,iV 0,iV 0]) 12 rfl (jq.mg [1,0]) (λ_ _=>gB) ?_;refine aY 13 ?_;refine j5 13 rfl eQ (gT (x:=⟨UW a.nd q a.op m.calls,none,0⟩) jq (by have:=qG.fl;omega)) ?_;rintro _ w41 ⟨rfl,A37,c38,arS,al9,uZ⟩;refine ⟨_,rfl,?_⟩;refine aI 2 ?_;refine zN 6 ?_;refine vv (ah rfl rfl (aG (St.cl 0 uZ rfl akC))) ?_;refine vv (v:=iV ((m.calls+1:Nat):Int)) j6 ?_;refine zN 3 ?_;refine jE 0 uZ kQ ?_ (hs:=by exact auh);intro w43 yO;refine zQ ?_;refine aK (l':=[]) trivial (dz (nZ ?_));rw [afK ‹_› hqd];subst al9;have oP:=yO.aU [2];have sN:=oP.dZ [6,6,3,3,6,6,6];rw [<-qF] at sN;exact ⟨rfl,Wd.dI (X':=X) (z':=z) (Ls:=[]) (fA:=A37) (fc:=c38) (fx:=R.fx++[(⟨UW a.nd q a.op m.calls,none,0⟩:LX)]) (sA:=R.sA) (sc:=R.sc) (tA:=R.tA) (tc:=R.tc) hkn bY hrr G hn sN NG.more (oD (iY rfl)) (aH hX).symm (by rw [List.map_append,G.fly];rfl) mI⟩
 refine zN 7 ?_;by_cases h47:a.kd=3
 ·refine zN 5 ?_;have pW:St B w0 w2 [.blk b1 (aR a) 53]:=S3.sub (List.Sublist.cons_cons _ (List.nil_sublist _));have Ut:=S3.drew;have u6:=pW.drew;refine aF 10 u6 [] ?_;refine aI 5 ?_;refine ak (v:=iV ((n:Nat):Int)) 6 rfl u6 (λ_ aav=>(BG hnd (ah rfl rfl (aG (St.cl 0 aav rfl rfl))))) ?_;refine aY 4 ?_;refine je (i:=4) rfl rfl (v:= .slice (aD ab ao) 5 R.nc) (wn rfl) rfl rfl (ah rfl rfl (aG (St.cl 4 Ut rfl zy))) ?_;refine dJ ?_;refine ak 7 rfl u6 (λ_ _=>kY n) ?_;refine aY 8 ?_;refine je (i:=8) rfl rfl (v:=pV kn 0) (wn rfl) rfl rfl (ah rfl rfl (aG (hkn▸vC harr hn Ut (memT 8 rfl hL)))) ?_;refine dJ ?_;refine aY 9 ?_;have qN:=Ut.dZ [7,7,7,7,7,7,7];have Bl:=qN;rw [<-qF] at Bl;have aBv:=Wd.dI (m:=m) (m':=m) (H:=H) (H':=H) (fs:=(.blk b1 (aR a) 53)::fs) (X':=X) (z':=z) (Ls:=[]) (fA:=R.fA) (fc:=R.fc) (fx:=R.fx) (sA:=R.sA) (sc:=R.sc) (tA:=R.tA) (tc:=R.tc) (rr:=(.blk b1 (aR a) 53)::rr) hkn bY (by rw [<-hrr]<;>rfl) G hn Bl NG.more (λu hu=> .inl hu) (aH hX).symm G.fly.symm mI;refine j5 9 rfl eQ (WV hn hkn bY hu (by have:=qG.fi hn;omega) (by have:=qG.aX;have:=qG.il hn;omega) (by have:=qG.turn n hn;omega) aBv (qG.mJ n hn).qW (λl hl=>RP (qG.u7 n hn l hl)) (λp h=>(qG.mJ n hn).fit h)) ?_;rintro _ w61 ⟨rfl,asV⟩;refine ⟨_,rfl,?_⟩;have Jk:=Wd.G8 (gs:=[.blk b1 (aR a) 53]) asV;refine aI 2 ?_;refine aK (l':=[]) trivial (dz (nZ ?_));rw [afL ‹_› hnd];exact ⟨rfl,(Wd.less (gs:=[.blk b1 (aR a) 53]) asV)⟩
 refine zN 8 ?_;by_cases h63:a.kd=4
 ·refine zN 11 ?_;refine vv (v:=iV ((a.at_.toNat:Nat):Int)) (BG amK (ah rfl rfl (aG (St.cl 0 S3 rfl rfl)))) ?_;refine zN 6 ?_;have S64:=S3.dZ [7,7,7,7,7,7,7];have EX:=S64;rw [<-qF] at EX;have aBw:=Wd.dI (m:=m) (m':=m) (H:=H) (H':=H) (fs:=(.blk b1 (aR a) 53)::fs) (X':=X) (z':=z) (Ls:=[]) (fA:=R.fA) (fc:=R.fc) (fx:=R.fx) (sA:=R.sA) (sc:=R.sc) (tA:=R.tA) (tc:=R.tc) (rr:=(.blk b1 (aR a) 53)::rr) hkn bY (by rw [<-hrr]<;>rfl) G hn EX NG.more (λu hu=> .inl hu) (aH hX).symm G.fly.symm mI;refine dL eQ (Dq hn hkn bY hu (by have:=qG.fl;omega) (by have:=qG.bF;omega) (λj hj=>by have:=qG.il hj;omega) aBw (λl hl=>(qG.F4 l hl).tgt)) ?_;rintro _ w68 ⟨rfl,asW⟩;refine ⟨_,rfl,?_⟩;have tN:=Wd.G8 (gs:=[.blk b1 (aR a) 53]) asW;refine zQ ?_;refine aK (l':=[]) trivial (dz (nZ ?_));rw [ajy ‹_›];exact ⟨rfl,(Wd.less (gs:=[.blk b1 (aR a) 53]) asW)⟩
 refine zN 7 ?_;by_cases h70:a.kd=5
 ·refine zN 11 ?_;refine vv (v:=iV ((a.at_.toNat:Nat):Int)) (BG amK (ah rfl rfl (aG (St.cl 0 S3 rfl rfl)))) ?_;refine zN 6 ?_;have sK:=S3.dZ [7,7,7,7,7,7,7];have tQ:=sK;rw [<-qF] at tQ;have aBx:=Wd.dI (m:=m) (m':=m) (H:=H) (H':=H) (fs:=(.blk b1 (aR a) 53)::fs) (X':=X) (z':=z) (Ls:=[]) (fA:=R.fA) (fc:=R.fc) (fx:=R.fx) (sA:=R.sA) (sc:=R.sc) (tA:=R.tA) (tc:=R.tc) (rr:=(.blk b1 (aR a) 53)::rr) hkn bY (by rw [<-hrr]<;>rfl) G hn tQ NG.more (λu hu=> .inl hu) (aH hX).symm G.fly.symm mI;refine dL eQ (Dq hn hkn bY hu (by have:=qG.fl;omega) (by have:=qG.bF;omega) (λj hj=>by have:=qG.il hj;omega) aBx (λl hl=>(qG.F4 l hl).tgt)) ?_;rintro _ w75 ⟨rfl,asX⟩;refine ⟨_,rfl,?_⟩;have Lv:=Wd.G8 (gs:=[.blk b1 (aR a) 53]) asX;refine zQ ?_;refine aK (l':=[]) trivial (dz (nZ ?_));rw [ajz ‹_›];exact ⟨rfl,(Wd.less (gs:=[.blk b1 (aR a) 53]) asX)⟩
 refine zN 6 ?_;by_cases h77:a.kd=6
 ·refine zN 8 ?_;refine vv (v:=iV ((a.at_.toNat:Nat):Int)) (BG amK (ah rfl rfl (aG (St.cl 0 S3 rfl rfl)))) ?_;refine zN 6 ?_;have Jm:=S3.dZ [7,7,7,7,7,7,7];have Bg:=Jm;rw [<-qF] at Bg;have aBy:=Wd.dI (m:=m) (m':=m) (H:=H) (H':=H) (fs:=(.blk b1 (aR a) 53)::fs) (X':=X) (z':=z) (Ls:=[]) (fA:=R.fA) (fc:=R.fc) (fx:=R.fx) (sA:=R.sA) (sc:=R.sc) (tA:=R.tA) (tc:=R.tc) (rr:=(.blk b1 (aR a) 53)::rr) hkn bY (by rw [<-hrr]<;>rfl) G hn Bg NG.more (λu hu=> .inl hu) (aH hX).symm G.fly.symm mI;refine dL eQ (Dq hn hkn bY hu (by have:=qG.fl;omega) (by have:=qG.bF;omega) (λj hj=>by have:=qG.il hj;omega) aBy (λl hl=>(qG.F4 l hl).tgt)) ?_;rintro _ w82 ⟨rfl,asY⟩;refine ⟨_,rfl,?_⟩;have zK:=Wd.G8 (gs:=[.blk b1 (aR a) 53]) asY;refine zQ ?_;refine aK (l':=[]) trivial (dz (nZ ?_));rw [ajA ‹_›];exact ⟨rfl,(Wd.less (gs:=[.blk b1 (aR a) 53]) asY)⟩
 refine zN 7 ?_;by_cases h84:a.kd=7
 ·refine zN 10 ?_;refine vv (ah rfl rfl (aG (St.cl 4 S3 rfl Qt))) ?_;refine zN 8 ?_;refine jE 4 S3 kQ ?_ (hs:=by exact al6);intro w85 yQ;refine zN 10 ?_;have FU:=yQ.aU [0];have GY:=FU.nil 125 23;have Lx:=((((((((GY.bring 5 rfl).bring 7 rfl).bring 7 rfl).bring 3 rfl).bring 7 rfl).bring 7 rfl).bring 7 rfl).bring 7 rfl);rw [<-qF] at Lx;obtain ⟨m1,hm1⟩: ∃ k,k=({ m with fly:=[] }:Cl):=⟨_,rfl⟩;have HW1:Wd K B w0 w85 ((oL R.fA R.fx R.fc)::fs) m1 (R.fx++H):=by
   rw [hm1];exact Wd.dI (m:=m) (H:=H) (fs:=(oL R.fA R.fx R.fc)::fs) (X':=X) (z':=z) (Ls:=[]) (fA:=none) (fc:=0) (fx:=[]) (sA:=R.sA) (sc:=R.sc) (tA:=R.tA) (tc:=R.tc) (rr:=(oL R.fA R.fx R.fc)::rr) hkn bY (by rw [<-hrr];rfl) G hn Lx NG.more (λu hu=>by simp at hu) (aH hX).symm rfl (λu hu=>(List.mem_append.1 hu).elim (λh=> .inr ((G.flo u h).mono λf hf=>List.mem_append_left _ hf)) .inl)
  have hB0:=afH qG;rw [<-hm1] at hB0;refine eP (X:=Nat×Cl) (λxv=>[(0,pV kw 0),(90,.slice R.fA R.fx.length R.fc),(91,iV ((R.fx.length:Nat):Int)),(92,iV ((xv.1:Nat):Int))]) (λxv wr=>(Wd K B w0 wr ((oL R.fA R.fx R.fc)::fs) xv.2 (R.fx.drop xv.1++H))/\(m.fly.foldl Cl.come m1=(m.fly.drop xv.1).foldl Cl.come xv.2)/\(xv.1<=R.fx.length)/\(gu xv.2 (4*k+xv.1) (500000*k) (500000*k+xv.1) k)/\St B w0 wr [.own 125 23 (.slice R.fA R.fx.length R.fc) R.fx.length ((R.fx).flatMap LX.cells)]) (λxv=>R.fx.length-xv.1) (0,m1) ?_ ?_ ?_
  ·exact ⟨HW1,rfl,Nat.zero_le _,hB0,Wd.G8 (gs:=[.own 125 23 (.slice R.fA R.fx.length R.fc) R.fx.length ((R.fx).flatMap LX.cells)]) HW1⟩
  ·exact mG
  rintro ⟨k2,mm⟩ w90 ⟨amL,amM,aBz,abK,LA⟩
  try dsimp only at amL amM aBz abK LA
  refine bg (l':=[(0,pV kw 0),(90,.slice R.fA R.fx.length R.fc),(91,iV ((R.fx.length:Nat):Int)),(92,iV ((k2:Nat):Int))]) mG ?_;obtain ⟨R3,G3,Ur⟩:=amL.open hn;have RU:=G3.mJ n hn;obtain ⟨X3,BK⟩: ∃ X,mm.au n=X:=⟨_,rfl⟩;obtain ⟨z3,hz3⟩: ∃ z,R3.nx n=z:=⟨_,rfl⟩;rw [BK,hz3] at Ur RU;obtain ⟨Yl,IY⟩: ∃ r,fU K R3 mm fs n=r:=⟨_,rfl⟩;have EZ:St B w0 w90 ((bN kn n X3.up z3.tA X3.data z3.tc X3.syn z3.bb X3.hints X3.sure z3.iA z3.ix z3.ic z3.pv X3.turn)::(oB z3.bb z3.bx)::(fL z3.iA z3.ix z3.ic)::(bW kw (.slice R3.nA 5 R3.nc) mm.off R3.fA R3.fx R3.fc mm.shown R3.sA mm.aX R3.sc R3.tA mm.bF R3.tc mm.calls)::(oL R3.fA R3.fx R3.fc)::(oS R3.sA mm.aX R3.sc)::(oT R3.tA mm.bF R3.tc)::(oL R.fA R.fx R.fc)::Yl):=by rw [<-IY];subst hkn;subst bY;exact Ur
  clear Ur;refine zN 2 ?_;by_cases h97:((k2:Nat):Int)< ((R.fx.length:Nat):Int)
  ·refine zN 10 ?_;obtain ⟨x,hx⟩: ∃ x,R.fx[k2]? =some x:=⟨_,List.getElem?_eq_getElem oQ⟩;have hxf:m.fly[k2]? =some x.l:=by rw [<-G.fly,List.getElem?_map,hx];rfl
   have hxb:=qG.F4 x.l (List.mem_of_getElem? hxf);refine zQ ?_;obtain ⟨fb,fo,hfA⟩:=rd_some (St.ord 7 EZ rfl) oQ;refine vv (v:=pV fb (fo+k2*23)) (aZ rfl rfl rfl (jM k2 hfA Tryz.underlying97 kQ oQ oQ)) ?_;refine vv (v:= .agg (LX.row x)) (ah rfl rfl (dK (cs:=LX.cells x) (λj u hu=>by rw [Nat.add_assoc];exact IW (St.ord 7 EZ rfl) hfA (bU (enc:=LX.cells) (sz:=23) (k:=k2) (λ_=>rfl) hx hu)))) ?_;refine fT EZ abY ?_;intro b98 w99 rW;refine stA 0 rW kQ ?_ (h1:=DT _);intro aqR sZ;refine zN 5 ?_;have qU:=sZ.aU [0];have avc:=Wd.dI (m:=mm) (m':=mm) (H:=R.fx.drop k2++H) (H':=x::(R.fx.drop (k2+1)++H)) (fs:=(oL R.fA R.fx R.fc)::fs) (X':=X3) (z':=z3) (Ls:=[]) (fA:=R3.fA) (fc:=R3.fc) (fx:=R3.fx) (sA:=R3.sA) (sc:=R3.sc) (tA:=R3.tA) (tc:=R3.tc) (rr:=(oL R.fA R.fx R.fc)::Yl) hkn bY (by rw [<-IY];rfl) G3 hn ((((((((qU.bring 7 rfl).bring 7 rfl).bring 7 rfl).bring 7 rfl).bring 7 rfl).bring 7 rfl).bring 7 rfl).bring 7 rfl) RU.more (λu hu=> .inl hu) (aH BK).symm G3.fly.symm (by rw [drop_cons hx];exact mI);obtain ⟨jj,hjj,htt⟩:=hxb.tgt;refine dL eQ (Dp (m:=mm) (x:=x) hjj rfl bY hu (by have:=(abK).fl;omega) (by have:=(abK).bF;omega) (by have:=(abK).il hjj;omega) avc htt) ?_;rintro _ Zg ⟨rfl,ace⟩;refine ⟨_,rfl,?_⟩;obtain ⟨mc,hmc⟩: ∃ k,k=mm.come x.l:=⟨_,rfl⟩;have xX:=Wd.G8 (gs:=[.own 125 23 (.slice R.fA R.fx.length R.fc) R.fx.length ((R.fx).flatMap LX.cells)]) ace;refine zN 4 ?_;refine vv (v:=iV ((k2+1:Nat):Int)) j6 ?_;refine zN 2 ?_;refine bT (k2+1,mc) ?_ mG (by first | omega | (dsimp only;omega));exact ⟨(by dsimp only;rw [hmc];exact ace),(by dsimp only;rw [amM,afI hxf,<-hmc]),uQ,(by dsimp only;rw [hmc];exact (Gj abK hxb).mono oQ (Nat.le_refl _) oQ (Nat.le_refl _)),(Wd.G8 (gs:=[.own 125 23 (.slice R.fA R.fx.length R.fc) R.fx.length ((R.fx).flatMap LX.cells)]) (hmc▸ace))⟩
  refine zN 11 ?_;have qR:m.act a=mm:=by rw [ajB ‹_›];show m.fly.foldl Cl.come { m with fly:=[] }=mm;rw [<-hm1,amM,List.drop_eq_nil_of_le oQ];rfl
  rw [qR];have aBA:R.fx.length<=k2:=oQ;exact ⟨rfl,Wd.less (gs:=[.own 125 23 (.slice R.fA R.fx.length R.fc) R.fx.length ((R.fx).flatMap LX.cells)]) (by have h9:=amL;rw [List.drop_eq_nil_of_le aBA] at h9;exact h9)⟩
 refine zN 7 ?_;by_cases amq:a.kd=8
 ·refine zN 6 ?_;refine gZ S3 mixed kQ ?_;refine zN 3 ?_;refine uv (v:= .slice (aD ab ao) 5 R.nc) (λ_ avd=>(ah rfl rfl (aG (St.cl 4 avd rfl zy)))) ?_;refine zQ ?_;refine uv (v:=iV ((n:Nat):Int)) (λ_ ave=>(BG hnd (ah rfl rfl (aG (St.cl 0 ave rfl rfl))))) ?_;refine uv (λ_ _=>kY n) ?_;refine uv (v:=pV kn 0) (λ_ avf=>(ah rfl rfl (aG (hkn▸vC harr hn avf (memT 8 rfl hL))))) ?_;refine zQ ?_;refine iG λalV tq=>?_;refine zN 9 ?_
  cases aDB:(X.up)
  ·refine bg (l':=[(3,pV b1 0),(7,pV kn 0),(113,.bool false)]) EO (bZ rfl (fC (dz (nZ ?_))));have zu:=tq.aU [0];have zo:=zu;rw [<-qF] at zo;have avg:=Wd.dI (m:=m) (m':=m) (H:=H) (H':=H) (fs:=fs) (X':=X) (z':=z) (Ls:=[]) (fA:=R.fA) (fc:=R.fc) (fx:=R.fx) (sA:=R.sA) (sc:=R.sc) (tA:=R.tA) (tc:=R.tc) (rr:=rr) hkn bY (by rw [<-hrr]<;>rfl) G hn zo NG.more (λu hu=> .inl hu) (aH hX).symm G.fly.symm mI;rw [Oc ‹_› hnd,abJ (by rw [hX];assumption)];exact ⟨rfl,avg⟩
  refine bg (l':=[(3,pV b1 0),(7,pV kn 0),(113,.bool true)]) EO (dO rfl (aA ?_));have NI:=tq.drew;refine aF 14 NI [1] ?_;refine aI 6 ?_;refine aY 4 ?_;refine je (i:=4) rfl rfl (v:= .agg #[.slice z.tA X.data.length z.tc,iV X.syn]) (wn rfl) rfl rfl (ah rfl rfl (dK (cs:=[.slice z.tA X.data.length z.tc,iV X.syn]) (St.rg 1 NI rfl (rP)))) ?_;refine dJ ?_;refine aY 7 ?_;refine j5 7 rfl eQ (AB (Sj z.tA X.data.length z.tc X.data X.syn a.kp _ (NG.xw.rd NI (memT 8 rfl hL)))) ?_;rintro _ ZG ⟨agC,amN,rfl,aBB⟩;refine ⟨_,rfl,?_⟩;have zq:=NI.ext aBB rfl;refine aI 6 ?_;refine aY 13 ?_;refine snz (row':=dF n X.up (.slice agC ((oN X.data X.syn a.kp).1.length) amN) ((oN X.data X.syn a.kp).2.1) (.slice (aD z.bb 0) 4 4) X.hints X.sure (.slice z.iA z.ix.length z.ic) (z.pv) X.turn) 13 rfl 2 zq kQ ?_;intro arL Io;refine aI 2 ?_;refine zN 6 ?_;refine jE (row':=dF n false (.slice agC ((oN X.data X.syn a.kp).1.length) amN) ((oN X.data X.syn a.kp).2.1) (.slice (aD z.bb 0) 4 4) X.hints X.sure (.slice z.iA z.ix.length z.ic) (z.pv) X.turn) 2 Io kQ ?_;intro axq UJ;refine zN 4 ?_;have K5:=UJ.dZ [2];refine dL eQ (nD K5 hu) ?_;rintro _ aqU ⟨rfl,avh,Cr⟩;refine ⟨_,rfl,?_⟩;have zn:=Cr.aU [5,4,3];refine zQ ?_;refine aK (l':=[]) trivial (dz (nZ ?_));rw [Oc ‹_› hnd,afM (by rw [hX];assumption)];have aaK:=zn.BO 125 23;have Nc:=aaK.dZ [7,7,7,7,4,6,6];rw [<-qF] at Nc;exact ⟨rfl,Wd.dI (X':=X.crashed a.kp) (z':={ bb:=avh,tA:=agC,tc:=amN,bx:=sG,iA:=none,ic:=0,ix:=[],pv:= .nilFunc }) (Ls:=[.bI 1 agC ((oN X.data X.syn a.kp).1.length) (byteCells ((oN X.data X.syn a.kp).1))]) (fA:=R.fA) (fc:=R.fc) (fx:=R.fx) (sA:=R.sA) (sc:=R.sc) (tA:=R.tA) (tc:=R.tc) hkn bY hrr G hn Nc ⟨rfl,NS,Ro.bI (List.mem_append_right _ (List.mem_singleton.2 rfl)),rfl,λy hy=>(by cases hy),rfl⟩ (λu hu=> .inl hu) (by rw [hX];rfl) G.fly.symm mI⟩
 refine zN 7 ?_;by_cases aIT:a.kd=9
 ·refine zN 5 ?_;have amB:St B w0 w2 [.blk b1 (aR a) 53]:=S3.sub (List.Sublist.cons_cons _ (List.nil_sublist _));have Ut:=S3.drew;have uV:=amB.drew;refine aF 10 uV [] ?_;refine aI 5 ?_;refine ak (v:=iV ((n:Nat):Int)) 6 rfl uV (λ_ ab3=>(BG hnd (ah rfl rfl (aG (St.cl 0 ab3 rfl rfl))))) ?_;refine aY 4 ?_;refine je (i:=4) rfl rfl (v:= .slice (aD ab ao) 5 R.nc) (wn rfl) rfl rfl (ah rfl rfl (aG (St.cl 4 Ut rfl zy))) ?_;refine dJ ?_;refine ak 7 rfl uV (λ_ _=>kY n) ?_;refine aY 8 ?_;refine je (i:=8) rfl rfl (v:=pV kn 0) (wn rfl) rfl rfl (ah rfl rfl (aG (hkn▸vC harr hn Ut (memT 8 rfl hL)))) ?_;refine dJ ?_;refine aY 9 ?_;have Iw:=Ut.dZ [7,7,7,7,7,7,7];have U5:=Iw;rw [<-qF] at U5;have Vn:=Wd.dI (m:=m) (m':=m) (H:=H) (H':=H) (fs:=(.blk b1 (aR a) 53)::fs) (X':=X) (z':=z) (Ls:=[]) (fA:=R.fA) (fc:=R.fc) (fx:=R.fx) (sA:=R.sA) (sc:=R.sc) (tA:=R.tA) (tc:=R.tc) (rr:=(.blk b1 (aR a) 53)::rr) hkn bY (by rw [<-hrr]<;>rfl) G hn U5 NG.more (λu hu=> .inl hu) (aH hX).symm G.fly.symm mI;refine j5 9 rfl eQ (TI hn hkn bY hu (by have:=qG.fl;omega) (by have:=qG.aX;omega) Vn (qG.mJ n hn).Qe.1 (qG.mJ n hn).Qe.2.1 (qG.mJ n hn).Qe.2.2.1 (qG.mJ n hn).Qe.2.2.2 hsh) ?_;rintro _ ayc ⟨rfl,ak5⟩;refine ⟨_,rfl,?_⟩;have aqN:=Wd.G8 (gs:=[.blk b1 (aR a) 53]) ak5;refine aI 2 ?_;refine aK (l':=[]) trivial (dz (nZ ?_));rw [abH ‹_› hnd];exact ⟨rfl,(Wd.less (gs:=[.blk b1 (aR a) 53]) ak5)⟩
 refine zN 8 ?_;refine vv (v:=iV ((q:Nat):Int)) (BG hqd (ah rfl rfl (aG (St.cl 0 S3 rfl rfl)))) ?_;refine zN 2 ?_;obtain ⟨PW,vD⟩: ∃ r,bO m.off q=r:=⟨_,rfl⟩;obtain ⟨nn,hnn,hwn⟩:=ajx vD;have alq:=S3.dZ [7,7,7,7,7,7,7];have UN:=alq;rw [<-qF] at UN;have avi:=Wd.dI (m:=m) (m':=m) (H:=H) (H':=H) (fs:=(.blk b1 (aR a) 53)::fs) (X':=X) (z':=z) (Ls:=[]) (fA:=R.fA) (fc:=R.fc) (fx:=R.fx) (sA:=R.sA) (sc:=R.sc) (tA:=R.tA) (tc:=R.tc) (rr:=(.blk b1 (aR a) 53)::rr) hkn bY (by rw [<-hrr]<;>rfl) G hn UN NG.more (λu hu=> .inl hu) (aH hX).symm G.fly.symm mI;refine dL eQ (WX hnn rfl bY hu (by have:=qG.fl;omega) (by have:=qG.aX;omega) hq avi (qG.mJ nn hnn).qW vD hwn) ?_;rintro _ al0 ⟨rfl,ak6⟩;refine ⟨_,rfl,?_⟩;have U1:=Wd.G8 (gs:=[.blk b1 (aR a) 53]) ak6;refine zQ ?_;refine aK (l':=[]) trivial (dz (nZ ?_));rw [abI ‹_› ‹_› ‹_› ‹_› ‹_› ‹_› ‹_› ‹_› ‹_› hqd];exact ⟨rfl,(Wd.less (gs:=[.blk b1 (aR a) 53]) ak6)⟩
def vF:List Ac->Int
 | []=>0
 | a::l=>if aN a≠0 then aN a else vF l
def BL (l:List Ac):Int:=if 100000<l.length then 1 else vF l
section
variable {l:List Ac} {k:Nat} {x:Ac}
theorem apH (h:l[k]? =some x) (hf:aN x=0):vF (l.drop k)=vF (l.drop (k+1)):=by rw [drop_cons h,vF,if_neg (λe=>e hf)]
theorem ajC (h:l[k]? =some x) (hf: ¬ aN x=0):vF (l.drop k)=aN x:=by rw [drop_cons h,vF,if_pos hf]
theorem OG (h: ¬ 100000<l.length):BL l=vF l:=if_neg h
theorem afO (h:100000<l.length):BL l=1:=if_pos h
theorem KQ: ∀ {l:List Ac},vF l=0-> ∀ a∈l,aN a=0
 | [],_,a,ha=>by simp at ha
 | x::l,h,a,ha=>by
  rw [vF] at h
  split at h
  ·rename_i hx;exact absurd h hx
  rename_i hx
  rcases List.mem_cons.1 ha with rfl | ha
  ·exact Classical.not_not.1 hx
  exact KQ h a ha
theorem ajD (h:BL l=0):l.length<=100000/\ ∀ a∈l,aN a=0:=by
 unfold BL at h
 split at h
 ·cases h
 exact ⟨by omega,KQ h⟩
theorem ajE (h:l[k]? =some x):l.take (k+1)=l.take k++[x]:=by rw [List.take_add_one,h];rfl
theorem afP {m:Cl} {l:List Ac}:m.run (l++[x])=(m.run l).act x:=by unfold Cl.run;rw [List.foldl_append];rfl
end
def Fw (fl:Nat) (U:Nat->Bool) (d:Dir) (bv sv tv:Value) (calls:Nat):List Value:=
 [iV ((fl:Nat):Int),.bool (U 0),.bool (U 1),.bool (U 2),.bool (U 3),.bool (U 4),iV d.p0.node,iV d.p0.epoch,iV d.p1.node,iV d.p1.epoch,iV d.p2.node,iV d.p2.epoch,iV d.p3.node,iV d.p3.epoch,bv,sv,tv,iV ((calls:Nat):Int)]
def nR (fl:Nat) (U:Nat->Bool) (d:Dir) (bv sv tv:Value) (calls:Nat):Array Value:=(Fw fl U d bv sv tv calls).toArray
def ajF:Array Value:=oZ
section
variable {fl calls q k:Nat} {U:Nat->Bool} {d:Dir} {bv sv tv fv nv:Value} {sh:Nat->Nat->Int×Int}
theorem ak7 (h1:bv.oneCell'=true) (h2:sv.oneCell'=true) (h3:tv.oneCell'=true): ∀ u∈(nR fl U d bv sv tv calls).toList,u.oneCell'=true:=by
 intro u hu;simp only [nR,Fw,List.mem_cons,List.not_mem_nil,or_false] at hu
 rcases hu with rfl | rfl | rfl | rfl | rfl | rfl | rfl | rfl | rfl | rfl | rfl | rfl | rfl | rfl | rfl | rfl | rfl | rfl<;>first | rfl | assumption
theorem Vo {fl' calls' o:Nat} {U':Nat->Bool} {d':Dir} {bv' sv' tv':Value} {vs:List Value} (h:o+vs.length<=18) (he:(Fw fl U d bv sv tv calls).take o++vs++(Fw fl U d bv sv tv calls).drop (o+vs.length)=Fw fl' U' d' bv' sv' tv' calls'):
  cB (nR fl U d bv sv tv calls) o vs=nR fl' U' d' bv' sv' tv' calls':=Array.ext' (by rw [iq _ _ _ h];exact he)
theorem aBC {fl':Nat}:cB (nR fl U d bv sv tv calls) 0 [iV ((fl':Nat):Int)]=nR fl' U d bv sv tv calls:=Vo (Nat.le_of_ble_eq_true rfl) rfl
theorem aBD {d':Dir}:cB (nR fl U d bv sv tv calls) 6 d'.cells=nR fl U d' bv sv tv calls:=Vo (Nat.le_of_ble_eq_true rfl) rfl
theorem ak8 {x:Value}:cB (nR fl U d bv sv tv calls) 14 [x]=nR fl U d x sv tv calls:=Vo (Nat.le_of_ble_eq_true rfl) rfl
theorem avj (hq:q<5) {v:Bool}:cB (nR fl U d bv sv tv calls) (1+q*1) [.bool v]=nR fl (upd U q v) d bv sv tv calls:=by
 rcases five hq with rfl | rfl | rfl | rfl | rfl<;>exact Vo (Nat.le_of_ble_eq_true rfl) rfl
theorem ajG: ∀ (j:Nat) (u:Value),(nR 0 (λ_=>false) (⟨⟨0,0⟩,⟨0,0⟩,⟨0,0⟩,⟨0,0⟩⟩:Dir) (.slice none 0 0) sv tv calls).toList[j]? =some u->(lq nv d fv sh sv tv calls)[50+j]? =some u:=by
 intro j u h;have hj:j<18:=(List.getElem?_eq_some_iff.1 h).1;have h2:j=0\/j=1\/j=2\/j=3\/j=4\/j=5\/j=6\/j=7\/j=8\/j=9\/j=10\/j=11\/j=12\/j=13\/j=14\/j=15\/j=16\/j=17:=oQ
 rcases h2 with rfl | rfl | rfl | rfl | rfl | rfl | rfl | rfl | rfl | rfl | rfl | rfl | rfl | rfl | rfl | rfl | rfl | rfl<;>exact h
end
def jY (p:Nat×List BX):List Value:=[.slice (aD p.1 0) 4 4]
structure P1 (L:List Fact) (m:Cl) (j:Nat) (p:Nat×List BX):Prop where
 rd:Ro L 6 (aD p.1 0) 4 (p.2.flatMap BX.cells)
 bm:p.2.map BX.b=vB (m.au j).view
 bo: ∀ y∈p.2,Bv L y
theorem P1.mono {L L':List Fact} {m:Cl} {j:Nat} {p:Nat×List BX} (h:P1 L m j p) (hl: ∀ f∈L,f∈L'):P1 L' m j p:=⟨h.rd.mono hl,h.bm,λy hy=>(h.bo y hy).mono hl⟩
def Vp (L:List Fact) (m:Cl) (row:Array Value):Prop:= ∃ (U:Nat->Bool) (BA:Option Addr) (bc:Nat) (sA:Option Addr) (sc:Nat) (tA:Option Addr) (tc:Nat) (ps:List (Nat×List BX)),row=nR m.fly.length U m.off (.slice BA 5 bc) (.slice sA m.aX.length sc) (.slice tA m.bF.length tc) m.calls/\(∀ j,j<5->U j=(m.au j).up)/\ps.length=5/\
 Ro L 1 BA 5 (ps.flatMap jY)/\Ro L 14 sA m.aX.length (m.aX.flatMap lD.cells)/\Ro L 7 tA m.bF.length (m.bF.flatMap vY.cells)/\ ∀ j p,ps[j]? =some p->P1 L m j p
section
variable {K:CK} {R:CX} {B n k:Nat} {w0 w:World} {fs gs N E L LC:List Fact} {m:Cl} {H:List LX} {X:Nd} {z:NX} {ps:List (Nat×List BX)} {p:Nat×List BX} {bs:List BX} {bB:Nat} {U:Nat->Bool}
theorem Wd.top (h:Wd K B w0 w fs m H):St B w0 w fs:=by
 obtain ⟨R,_,S⟩:=h;exact S.sub (List.sublist_append_left _ _)
open Classical in
theorem St.shut (hn:n<5) (S:St B w0 w (kr K n (m.au n) (R.nx n)++(uE K R m++(gs++fU K R m fs n)))):St B w0 w (gs++(fs++lG K R m)):=by
 refine S.perm (List.perm_iff_count.2 λa=>?_);have h1:=List.perm_iff_count.1 (uR (λj=>kr K j (m.au j) (R.nx j)) hn) a;unfold fU lG l5;simp only [List.count_append] at h1⊢;omega
open Classical in
theorem St.ak9 (hn:n<5) (S:St B w0 w (kr K n (m.au n) (R.nx n)++(uE K R m++(gs++((N++(fs++(l5 K R m n++R.L)))++E))))):St B w0 w (gs++((E++N)++(fs++lG K R m))):=by
 refine S.perm (List.perm_iff_count.2 λa=>?_);have h1:=List.perm_iff_count.1 (uR (λj=>kr K j (m.au j) (R.nx j)) hn) a;unfold lG l5;simp only [List.count_append] at h1⊢;omega
open Classical in
theorem St.aBE (hn:n<5) (S:St B w0 w (gs++(N++(fs++lG K R m)))):St B w0 w (kr K n (m.au n) (R.nx n)++(uE K R m++(gs++(N++(fs++(l5 K R m n++R.L)))))):=by
 refine S.perm (List.perm_iff_count.2 λa=>?_);have h1:=List.perm_iff_count.1 (uR (λj=>kr K j (m.au j) (R.nx j)) hn) a;unfold lG l5;simp only [List.count_append] at h1⊢;omega
open Classical in
theorem St.avk (S:St B w0 w (gs++(N++(fs++LC)))):St B w0 w ((gs++(N++LC))++fs):=by
 refine S.perm (List.perm_iff_count.2 λa=>?_);simp only [List.count_append];omega
theorem Od (hl:ps.length=k) (h: ∀ j p,ps[j]? =some p->P1 L m j p) (hn:P1 L m k p): ∀ j q,(ps++[p])[j]? =some q->P1 L m j q:=λj q hq=>by
 by_cases e:j<ps.length
 ·rw [List.getElem?_append_left e] at hq;exact h j q hq
 rw [List.getElem?_append_right oQ] at hq;have:j-ps.length=0:=by
  have:=(List.getElem?_eq_some_iff.1 hq).1;rw [List.length_singleton] at this;omega
 rw [this] at hq
 cases hq;rw [show j=k by omega];exact hn
theorem apJ (hk:k<5) (hz:R.nx k=z):Fact.own 150 6 (.slice (aD z.bb 0) 4 4) 4 (z.bx.flatMap BX.cells)∈lG K R m:=by
 subst hz;refine List.mem_append_right _ (List.mem_append_left _ (List.mem_flatMap.2 ⟨k,List.mem_range.2 hk,?_⟩));exact List.mem_cons_of_mem _ (List.mem_cons_self ..)
theorem ajH (h:dM K R.L k (m.au k) (R.nx k)) (hX:m.au k=X) (hz:R.nx k=z) (hu:X.up=true) (hk:k<5):P1 (N++lG K R m) m k (z.bb,z.bx):=by
 have ho:=apJ (K:=K) (m:=m) hk hz;subst hX;subst hz;refine ⟨Ro.own (List.mem_append_right _ ho),?_,λy hy=>(h.RD y hy).mono λf hf=>List.mem_append_right _ (List.mem_append_right _ (List.mem_append_right _ hf))⟩;rw [Yg hu];exact h.PU
theorem ajI (hm:bs.map BX.b=vB (bV X.data X.syn)) (hc: ∀ y∈bs,y.b.evs.length<=y.c) (hX:m.au k=X) (hu:X.up=false):P1 ((Fact.own 150 6 (.slice (aD bB 0) 4 4) 4 (bs.flatMap BX.cells)::(eT bs++N))++LC) m k (bB,bs):=by
 subst hX;refine ⟨Ro.own (List.mem_append_left _ (List.mem_cons_self ..)),?_,λy hy=>(Ob hc y hy).mono λf hf=>List.mem_append_left _ (List.mem_cons_of_mem _ (List.mem_append_left _ hf))⟩;unfold Nd.view;rw [if_neg (by rw [hu];simp)];exact hm
theorem RV (h: ∀ j,j<k->U j=(m.au j).up) (hX:m.au k=X): ∀ j,j<k+1->upd U k X.up j=(m.au j).up:=λj hj=>by
 by_cases e:j=k
 ·rw [e,upd_same,hX]
 rw [upd_ne e];exact h j oQ
theorem ajJ {OA:Option Addr} {oc:Nat} (G:Good K R m H) (hl:ps.length=5) (hU: ∀ j,j<5->U j=(m.au j).up) (hL:Fact.own 74 1 (.slice OA ps.length oc) ps.length (ps.flatMap jY)∈L) (hC: ∀ f∈lG K R m,f∈L) (hp: ∀ j p,ps[j]? =some p->P1 L m j p):
  Vp L m (nR R.fx.length U m.off (.slice OA ps.length oc) (.slice R.sA m.aX.length R.sc) (.slice R.tA m.bF.length R.tc) m.calls):=by
 rw [hl] at hL⊢;have hf:R.fx.length=m.fly.length:=by rw [<-G.fly,List.length_map]
 have h1:Fact.own 50 14 (.slice R.sA m.aX.length R.sc) m.aX.length (m.aX.flatMap lD.cells)∈lG K R m:=List.mem_append_left _ (List.mem_cons_of_mem _ (List.mem_cons_of_mem _ (List.mem_cons_self ..)));have h2:Fact.own 123 7 (.slice R.tA m.bF.length R.tc) m.bF.length (m.bF.flatMap vY.cells)∈lG K R m:=List.mem_append_left _ (List.mem_cons_of_mem _ (List.mem_cons_of_mem _ (List.mem_cons_of_mem _ (List.mem_cons_self ..))));exact ⟨U,OA,oc,R.sA,R.sc,R.tA,R.tc,ps,by rw [hf],hU,hl,Ro.own hL,Ro.own (hC _ h1),Ro.own (hC _ h2),hp⟩
end
theorem abL {B:Nat} {w0 w:World} {fs:List Fact} {A:Option Addr} {c:Nat} {l:List Ac} (S:St B w0 w fs) (hu:Uk B w0) (AO:Ro fs 11 A l.length (l.flatMap Ac.cells)) (hb:l.length*88<=reachBytes):
    Calls Tryz.prog 15 #[.slice A l.length c] w (λe w'=>(BL l≠0->e= .returned (.tuple #[.agg ajF,iV (BL l)])/\St B w0 w' fs)/\(BL l=0-> ∃ row L,e= .returned (.tuple #[.agg row,iV 0])/\Vp L (PD.run l) row/\St B w0 w' (L++fs))):=by
 have hb2:=hb;unfold reachBytes at hb2;refine gK 99 Tryz.func15 ?_;refine cw [0] ?_;refine zN 2 ?_;refine fT S afY ?_;intro b1 w2 S3;refine zN 8 ?_;by_cases h4:100000< ((l.length:Nat):Int)
 ·refine zN 7 ?_;refine sa 0 S3 kQ ?_;intro w5 S6;refine zN 6 ?_;have S7:=S6.aU [0];have hsf:BL l=1:=afO oQ;refine ⟨λ_=>⟨by rw [hsf];rfl,S7⟩,λh=>?_⟩;rw [hsf] at h;exact absurd h (by first | decide | assumption)
 refine zN 15 ?_;refine eP (X:=Nat) (λxv=>[(0,.slice A l.length c),(2,pV b1 0),(3,iV 0),(18,.slice A l.length c),(19,iV ((l.length:Nat):Int)),(20,iV ((xv:Nat):Int))]) (λxv wr=>(xv<=l.length)/\(vF l=vF (l.drop xv))/\St B w0 wr ((.blk b1 oZ 40)::fs)) (λxv=>l.length-xv) (0) ?_ ?_ ?_
 ·exact ⟨Nat.zero_le _,rfl,S3⟩
 ·exact rE
 rintro k1 w8 ⟨nJ,zw,S9⟩
 try dsimp only at nJ zw S9
 refine bg (l':=[(0,.slice A l.length c),(2,pV b1 0),(3,iV 0),(18,.slice A l.length c),(19,iV ((l.length:Nat):Int)),(20,iV ((k1:Nat):Int))]) rE (aA (av ?_));by_cases h12:((k1:Nat):Int)< ((l.length:Nat):Int)
 ·refine zN 10 ?_;obtain ⟨x,hx⟩: ∃ x,l[k1]? =some x:=⟨_,List.getElem?_eq_getElem oQ⟩;obtain ⟨ab_,ao_,hAb⟩:=AL AO S9 (memT 1 rfl dN) oQ;refine zQ ?_;refine vv (v:=pV ab_ (ao_+k1*11)) (aZ rfl rfl rfl (jM k1 hAb Tryz.underlying23 kQ oQ oQ)) ?_;refine vv (v:= .agg (aR x)) (ah rfl rfl (dK (cs:=Ac.cells x) (λj u hu=>by rw [Nat.add_assoc];exact xK AO hAb S9 (memT 1 rfl dN) (bU (enc:=Ac.cells) (sz:=11) (k:=k1) (λ_=>rfl) hx hu)))) ?_;refine fT S9 afZ ?_;intro b13 LB iW;refine sa 0 iW kQ ?_;intro w16 kR;refine zN 5 ?_;refine cab eQ kR (yM x _) ?_;intro Jg kM;refine zN 6 ?_;by_cases h21:aN x=0
  ·refine zN 8 ?_;refine vv (v:=iV ((k1+1:Nat):Int)) j6 ?_;refine zN 2 ?_;have iM:=kM.aU [0];refine bT (k1+1) ?_ rE (by first | omega | (dsimp only;omega));exact ⟨oQ,(by rw [zw];exact apH hx h21),iM⟩
  refine zN 8 ?_;refine sa 1 kM kQ ?_;intro Jj jq;refine zN 10 ?_;have iy:=jq.aU [1,0];have hsf:BL l=aN x:=by rw [OG oQ,zw];exact ajC hx h21
  refine ⟨λ_=>⟨by rw [hsf];rfl,iy⟩,λh=>?_⟩;rw [hsf] at h;exact absurd h (by first | decide | assumption)
 refine zN 12 ?_;have asZ:BL l=0:=by rw [OG oQ,zw,List.drop_eq_nil_of_le oQ];rfl
 obtain ⟨aDC,hall⟩:=ajD asZ;refine dL eQ (Tz S9 hu) ?_;rintro _ MW ⟨K,rfl,aBF⟩;refine ⟨_,rfl,?_⟩;have acf:Wd K B w0 MW ((.blk b1 oZ 40)::fs) PD []:=aBF;have sJ:=Wd.top acf;obtain ⟨kw,bY⟩: ∃ b,K.wb=b:=⟨_,rfl⟩;obtain ⟨n,hn0⟩: ∃ n,n=0:=⟨_,rfl⟩;have hn:n<5:=oQ;obtain ⟨kn,hkn⟩: ∃ b,K.nb n=b:=⟨_,rfl⟩;rw [bY];refine zN 12 ?_;refine eP (X:=Nat×Cl) (λxv=>[(2,pV b1 0),(3,iV 0),(7,pV kw 0),(32,.slice A l.length c),(33,iV ((l.length:Nat):Int)),(34,iV ((xv.1:Nat):Int))]) (λxv wr=>(Wd K B w0 wr ((.blk b1 oZ 40)::fs) xv.2 [])/\(xv.2=PD.run (l.take xv.1))/\(Bs xv.2 xv.1)/\(ShN xv.2)/\(xv.1<=l.length)/\St B w0 wr ((.blk b1 oZ 40)::fs)) (λxv=>l.length-xv.1) (0,PD) ?_ ?_ ?_
 ·exact ⟨acf,rfl,asu,λ_ _=>Int.le_refl _,Nat.zero_le _,Wd.top acf⟩
 ·exact rE
 rintro ⟨k2,mm⟩ XZ ⟨amO,Il,wY,Gb,amI,uq⟩
 try dsimp only at amO Il wY Gb amI uq
 refine bg (l':=[(2,pV b1 0),(3,iV 0),(7,pV kw 0),(32,.slice A l.length c),(33,iV ((l.length:Nat):Int)),(34,iV ((k2:Nat):Int))]) rE ?_;obtain ⟨R3,G3,Ur⟩:=amO.open hn;have RU:=G3.mJ n hn;obtain ⟨X3,BK⟩: ∃ X,mm.au n=X:=⟨_,rfl⟩;obtain ⟨z3,hz3⟩: ∃ z,R3.nx n=z:=⟨_,rfl⟩;rw [BK,hz3] at Ur RU;obtain ⟨Yl,IY⟩: ∃ r,fU K R3 mm fs n=r:=⟨_,rfl⟩;have as0: ∀ f∈fs,f∈Yl:=λf hf=>IY▸List.mem_append_left _ hf;have og:St B w0 XZ (cN kn n X3 z3 z3.pv (cF kw R3 mm ((.blk b1 oZ 40)::Yl))):=by rw [<-IY];subst hkn;subst bY;exact Ur
 clear Ur;refine zN 2 ?_;by_cases h37:((k2:Nat):Int)< ((l.length:Nat):Int)
 ·refine zN 10 ?_;obtain ⟨x,hx⟩: ∃ x,l[k2]? =some x:=⟨_,List.getElem?_eq_getElem oQ⟩;obtain ⟨ab_,ao_,hAb⟩:=AL AO og (memT 8 rfl as0) oQ;have hxa:=akV (hall x (List.mem_of_getElem? hx));refine zQ ?_;refine vv (v:=pV ab_ (ao_+k2*11)) (aZ rfl rfl rfl (jM k2 hAb Tryz.underlying23 kQ oQ oQ)) ?_;refine vv (v:= .agg (aR x)) (ah rfl rfl (dK (cs:=Ac.cells x) (λj u hu=>by rw [Nat.add_assoc];exact xK AO hAb og (memT 8 rfl as0) (bU (enc:=Ac.cells) (sz:=11) (k:=k2) (λ_=>rfl) hx hu)))) ?_;refine fT og afZ ?_;intro b38 w39 vX;refine sa 0 vX kQ ?_;intro w41 uZ;refine zN 5 ?_;have qM:=uZ.aU [0];have aBG:=Wd.dI (m:=mm) (m':=mm) (H:=[]) (H':=[]) (fs:=(.blk b1 oZ 40)::fs) (X':=X3) (z':=z3) (Ls:=[]) (fA:=R3.fA) (fc:=R3.fc) (fx:=R3.fx) (sA:=R3.sA) (sc:=R3.sc) (tA:=R3.tA) (tc:=R3.tc) (rr:=(.blk b1 oZ 40)::Yl) hkn bY (by rw [<-IY];rfl) G3 hn qM RU.more (λu hu=> .inl hu) (aH BK).symm G3.fly.symm mI;refine dL eQ (afN (n:=x.nd.toNat) (q:=x.qu.toNat) (by have:=hxa.nd;omega) (by have:=hxa.qu;omega) (by have:=hxa.nd;omega) (by have:=hxa.qu;omega) rfl bY hu aBG wY oQ hxa Gb) ?_;rintro _ Ub ⟨rfl,amP⟩;refine ⟨_,rfl,?_⟩;have vJ:=Wd.top amP;refine zN 4 ?_;refine vv (v:=iV ((k2+1:Nat):Int)) j6 ?_;refine zN 2 ?_;refine bT (k2+1,mm.act x) ?_ rE (by first | omega | (dsimp only;omega));exact ⟨amP,(by dsimp only;rw [ajE hx,afP,<-Il]),(by dsimp only;exact apz wY hxa oQ),(by dsimp only;exact ShN.act Gb),uQ,(Wd.top amP)⟩
 refine zN 11 ?_;have hmm:mm=PD.run l:=by rw [Il,List.take_of_length_le oQ]
 have qG:=wY;obtain ⟨R,G,S0⟩:=amO.open hn;have NG:=G.mJ n hn;obtain ⟨X,hX⟩: ∃ X,mm.au n=X:=⟨_,rfl⟩;obtain ⟨z,hz⟩: ∃ z,R.nx n=z:=⟨_,rfl⟩;rw [hX,hz] at S0 NG;obtain ⟨rr,hrr⟩: ∃ r,fU K R mm fs n=r:=⟨_,rfl⟩;have hfr: ∀ f∈fs,f∈rr:=λf hf=>hrr▸List.mem_append_left _ hf;have pW:St B w0 XZ (cN kn n X z z.pv (cF kw R mm ((.blk b1 oZ 40)::rr))):=by rw [<-hrr];subst hkn;subst bY;exact S0
 clear S0;have hcl:=qG.calls;have hfl:R.fx.length=mm.fly.length:=by rw [<-G.fly,List.length_map]
 refine zN 4 ?_;refine vv (v:= .agg (nR 0 (λ_=>false) (⟨⟨0,0⟩,⟨0,0⟩,⟨0,0⟩,⟨0,0⟩⟩:Dir) (.slice none 0 0) (.slice R.sA mm.aX.length R.sc) (.slice R.tA mm.bF.length R.tc) mm.calls)) (ah rfl rfl (dK (cs:=(nR 0 (λ_=>false) (⟨⟨0,0⟩,⟨0,0⟩,⟨0,0⟩,⟨0,0⟩⟩:Dir) (.slice none 0 0) (.slice R.sA mm.aX.length R.sc) (.slice R.tA mm.bF.length R.tc) mm.calls).toList) (St.rg 3 pW rfl ajG))) ?_;refine fT pW afY ?_;intro LK Pf uh;refine stA 0 uh kQ ?_ (h1:=by exact ak7 (fl:=0) (U:=(λ_=>false)) (d:=(⟨⟨0,0⟩,⟨0,0⟩,⟨0,0⟩,⟨0,0⟩⟩:Dir)) (bv:= .slice none 0 0) (sv:= .slice R.sA mm.aX.length R.sc) (tv:= .slice R.tA mm.bF.length R.tc) (calls:=mm.calls) rfl rfl rfl);intro w52 zI;refine zN 2 ?_;have lC:=zI.dZ [4,1];refine zQ ?_;have vI:=lC.drew;refine aF 13 vI [0] ?_;refine aI 3 ?_;refine ak (v:= .slice R.fA R.fx.length R.fc) 3 rfl (St.del 0 vI) (λ_ Zn=>(ah rfl rfl (aG (St.cl 0 Zn rfl Qt)))) ?_;refine aI 4 ?_;refine ak (v:= .agg ((mm.off.cells).toArray)) 8 rfl (St.del 0 vI) (λ_ Zc=>(ah rfl rfl (dK (cs:=(mm.off.cells)) (St.rg 0 Zc rfl (xu))))) ?_;refine dJ ?_;refine aY 10 ?_;refine snz 10 rfl 0 vI kQ ?_ (hs:=by exact aBC);intro Pg qO;refine aI 2 ?_;refine aY 12 ?_;refine snz 12 rfl 0 qO kQ ?_ (h1:=vk _) (hs:=by exact aBD);intro w69 r9;refine aI 2 ?_;refine zN 3 ?_;obtain ⟨ab,ao,qF⟩:=BF G.arr r9 (memT 9 rfl λf hf=>hrr▸List.mem_append_right _ (List.mem_append_right _ hf));refine zN 4 ?_;refine vv (v:= .slice R.nA 5 R.nc) (ah rfl rfl (aG (St.cl 1 r9 rfl zy))) ?_;refine zN 5 ?_;have sK:=r9.dZ [7,7,7,4,7,7,7];have Ca:=St.shut (gs:=[.blk LK (nR R.fx.length (λ_=>false) mm.off (.slice none 0 0) (.slice R.sA mm.aX.length R.sc) (.slice R.tA mm.bF.length R.tc) mm.calls) 40,.blk b1 oZ 40]) hn (by subst hkn;subst bY;rw [hX,hz,show fU K R mm fs n=rr from hrr];exact sK);have tQ:=Ca.nil 74 1;obtain ⟨LC,hLC⟩: ∃ f,f=lG K R mm:=⟨_,rfl⟩;obtain ⟨LF,hLF⟩: ∃ f,f=fs++LC:=⟨_,rfl⟩;rw [<-hLC,<-hLF] at tQ;refine eP (X:=Nat×(Nat->Bool)×(List (Nat×List BX))×(Option Addr)×Nat×(List Fact)) (λxv=>[(2,pV b1 0),(3,iV 0),(10,pV LK 0),(60,.slice R.nA 5 R.nc),(61,iV 5),(62,iV ((xv.1:Nat):Int))]) (λxv wr=>(xv.1<=5)/\(xv.2.2.1.length=xv.1)/\(∀ j p,xv.2.2.1[j]? =some p->P1 (xv.2.2.2.2.2++LC) mm j p)/\(∀ j,j<xv.1->xv.2.1 j=(mm.au j).up)/\St B w0 wr ((.own 74 1 (.slice xv.2.2.2.1 xv.2.2.1.length xv.2.2.2.2.1) xv.2.2.1.length ((xv.2.2.1).flatMap jY))::(.blk LK (nR R.fx.length xv.2.1 mm.off (.slice xv.2.2.2.1 xv.2.2.1.length xv.2.2.2.2.1) (.slice R.sA mm.aX.length R.sc) (.slice R.tA mm.bF.length R.tc) mm.calls) 40)::(.blk b1 oZ 40)::(xv.2.2.2.2.2++LF))) (λxv=>5-xv.1) (0,(λ_=>false),[],none,0,[]) ?_ ?_ ?_
 ·exact ⟨Nat.zero_le _,rfl,(λj p hp=>by simp at hp),(λj hj=>absurd hj (Nat.not_lt_zero _)),tQ⟩
 ·exact rE
 rintro ⟨k,U9,ps,OA,oc,N9⟩ w74 ⟨as1,abM,agD,agE,DI⟩
 try dsimp only at as1 abM agD agE DI
 refine bg (l':=[(2,pV b1 0),(3,iV 0),(10,pV LK 0),(60,.slice R.nA 5 R.nc),(61,iV 5),(62,iV ((k:Nat):Int))]) rE ?_;have hk5:k<=5:=as1;refine zN 2 ?_;by_cases h80:((k:Nat):Int)<5
 ·refine zN 10 ?_;have hk4:k<5:=oQ;have S9:=St.aBE (n:=k) (gs:=[.own 74 1 (.slice OA ps.length oc) ps.length ((ps).flatMap jY),.blk LK (nR R.fx.length U9 mm.off (.slice OA ps.length oc) (.slice R.sA mm.aX.length R.sc) (.slice R.tA mm.bF.length R.tc) mm.calls) 40,.blk b1 oZ 40]) (N:=N9) (fs:=fs) hk4 (by rw [<-hLC,<-hLF];exact DI);obtain ⟨X3,BK⟩: ∃ X,mm.au k=X:=⟨_,rfl⟩;obtain ⟨z3,hz3⟩: ∃ z,R.nx k=z:=⟨_,rfl⟩;obtain ⟨knk,agF⟩: ∃ b,K.nb k=b:=⟨_,rfl⟩;obtain ⟨rk,MG⟩: ∃ r,fs++(l5 K R mm k++R.L)=r:=⟨_,rfl⟩;have RU:=G.mJ k hk4;rw [BK,hz3] at S9 RU;rw [MG] at S9;have hLk: ∀ f∈R.L,f∈rk:=λf hf=>MG▸List.mem_append_right _ (List.mem_append_right _ hf);have tO:St B w0 w74 (cN knk k X3 z3 z3.pv (cF kw R mm ((.own 74 1 (.slice OA ps.length oc) ps.length ((ps).flatMap jY))::(.blk LK (nR R.fx.length U9 mm.off (.slice OA ps.length oc) (.slice R.sA mm.aX.length R.sc) (.slice R.tA mm.bF.length R.tc) mm.calls) 40)::(.blk b1 oZ 40)::(N9++rk)))):=by subst agF;subst bY;exact S9
  clear S9;refine zN 2 ?_;refine vv (v:=pV ab (ao+k*1)) (aZ rfl rfl rfl (jM k qF Tryz.underlying96 kQ oQ oQ)) ?_;refine vv (v:=pV knk 0) (ah rfl rfl (aG (agF▸vC (qF▸G.arr) hk4 tO (memT 10 rfl λf hf=>List.mem_append_right _ (hLk f hf))))) ?_;refine zN 12 ?_;refine vv (v:=pV LK (1+k*1)) (aZ rfl rfl rfl (fE k Tryz.underlying30 kQ rfl hk4)) ?_;refine fq (cs:= #[.bool X3.up]) (row':=nR R.fx.length (upd U9 k X3.up) mm.off (.slice OA ps.length oc) (.slice R.sA mm.aX.length R.sc) (.slice R.tA mm.bF.length R.tc) mm.calls) (fs':=(_::_::_::_::_::_::_::_::(.blk LK (nR R.fx.length (upd U9 k X3.up) mm.off (.slice OA ps.length oc) (.slice R.sA mm.aX.length R.sc) (.slice R.tA mm.bF.length R.tc) mm.calls) 40)::_::(N9++rk))) 8 tO (wn rfl) rfl rfl rfl rfl rfl rfl kQ rfl (aM rfl) (by show 1+k*1+1<=18;omega) (avj hk4 (v:=X3.up)) rfl ?_;intro w82 zK;refine zN 13 ?_
  rcases hup:X3.up with _ | _
  ·refine zN 4 ?_;refine vv (v:= .bool false) (NT hup (ah rfl rfl (aG (St.cl 0 zK rfl rfl)))) ?_;refine zN 8 ?_;refine vv (ah rfl rfl (dK (cs:=[.slice z3.tA X3.data.length z3.tc,iV X3.syn]) (St.rg 0 zK rfl (rP)))) ?_;have hrd:=(qG.mJ k hk4).Qe;rw [BK] at hrd;refine dL eQ (He z3.tA z3.tc X3.data X3.syn _ (RU.xw.rd zK (memT 10 rfl λf hf=>List.mem_append_right _ (hLk f hf))) hrd.1 hrd.2.2.1) ?_;rintro _ w87 ⟨A84,c85,bB,bs,hbm,hbl,hbc,rfl,T86⟩;refine ⟨_,rfl,?_⟩;have GY:=zK.ext T86 (by simp [J3,Fact.Hl]);have Lx:St B w0 w87 ((oB bB bs)::(.bI 1 A84 ((jL X3.data X3.syn).1.length) (byteCells ((jL X3.data X3.syn).1)))::(cN knk k X3 z3 z3.pv (cF kw R mm ((.own 74 1 (.slice OA ps.length oc) ps.length ((ps).flatMap jY))::(.blk LK (nR R.fx.length (upd U9 k X3.up) mm.off (.slice OA ps.length oc) (.slice R.sA mm.aX.length R.sc) (.slice R.tA mm.bF.length R.tc) mm.calls) 40)::(.blk b1 oZ 40)::((N9++rk)++eT bs))))):=St.perm GY (List.Perm.cons _ (List.Perm.cons _ (List.perm_append_comm (l₁:=eT bs))));clear zK;refine zN 10 ?_;refine bsI Lx ?_;intro b90 w91 yL;refine dY (news:=[.slice (aD bB 0) 4 4]) (xs':=((ps++[(bB,bs)])).flatMap jY) 10 yL (wn rfl) rfl rfl rfl rfl rfl rfl (St.lI (xs:=[.slice (aD bB 0) 4 4]) 0 yL rfl rfl rfl) Tryz.underlying36 acn rfl dQ (aM rfl) lQ oQ (kI (enc:=jY) rfl rfl) ?_;intro A93 c94 w95 aIU aIV EZ;refine zQ ?_;refine jE 11 EZ kQ ?_ (hs:=by exact ak8);intro w99 rW;refine zN 4 ?_;refine vv (v:=iV ((k+1:Nat):Int)) j6 ?_;refine zN 2 ?_;have vS:=rW.aU [2,0];have sZ:=vS.dZ [0,10,10,10,10,10,10,10,10,10,10];have qU:St B w0 w99 ((.own 74 1 (.slice A93 (ps.length+1) c94) (ps.length+1) (((ps++[(bB,bs)])).flatMap jY))::(.blk LK (nR R.fx.length (upd U9 k X3.up) mm.off (.slice A93 (ps.length+1) c94) (.slice R.sA mm.aX.length R.sc) (.slice R.tA mm.bF.length R.tc) mm.calls) 40)::(.blk b1 oZ 40)::(((oB bB bs)::(eT bs++N9))++LF)):=by
    rw [hLF,hLC];exact St.ak9 (n:=k) (gs:=[.own 74 1 (.slice A93 (ps.length+1) c94) (ps.length+1) (((ps++[(bB,bs)])).flatMap jY),.blk LK (nR R.fx.length (upd U9 k X3.up) mm.off (.slice A93 (ps.length+1) c94) (.slice R.sA mm.aX.length R.sc) (.slice R.tA mm.bF.length R.tc) mm.calls) 40,.blk b1 oZ 40,.own 150 6 (.slice (aD bB 0) 4 4) 4 ((bs).flatMap BX.cells)]) (N:=N9) (E:=eT bs) (fs:=fs) hk4 (by subst agF;subst bY;rw [BK,hz3];rw [<-MG] at sZ;exact sZ)
   have Un:ps.length+1=(ps++[(bB,bs)]).length:=by simp
   rw [Un] at qU;refine bT (k+1,upd U9 k X3.up,(ps++[(bB,bs)]),A93,c94,(.own 150 6 (.slice (aD bB 0) 4 4) 4 ((bs).flatMap BX.cells)::(eT bs++N9))) ?_ rE (by first | omega | (dsimp only;omega));exact ⟨uQ,(by dsimp only;rw [List.length_append,abM];rfl),(by dsimp only;exact Od abM (λj p hp=>(agD j p hp).mono (λf hf=>(List.mem_append.1 hf).elim (λh=>List.mem_append_left _ (List.mem_cons_of_mem _ (List.mem_append_right _ h))) λh=>List.mem_append_right _ h)) (ajI hbm hbc BK hup)),(by dsimp only;exact RV agE BK),qU⟩
  refine zN 4 ?_;refine vv (v:= .bool true) (NT hup (ah rfl rfl (aG (St.cl 0 zK rfl rfl)))) ?_;refine zN 10 ?_;refine bsI zK ?_;intro aIW arK Cx;refine dY (news:=[.slice (aD z3.bb 0) 4 4]) (xs':=((ps++[(z3.bb,z3.bx)])).flatMap jY) 8 Cx (wn rfl) rfl rfl rfl rfl rfl rfl (St.lI (xs:=[.slice (aD z3.bb 0) 4 4]) 0 Cx rfl rfl rfl) Tryz.underlying36 acn rfl dQ (aM rfl) lQ oQ (kI (enc:=jY) rfl rfl) ?_;intro UY UZ Ze aDD aDE qP;refine zQ ?_;refine jE 9 qP kQ ?_ (hs:=by exact ak8);intro alU Ep;refine zN 4 ?_;refine vv (v:=iV ((k+1:Nat):Int)) j6 ?_;refine zN 2 ?_;have qQ:=Ep.aU [0];have yh:=qQ.dZ [9,9,9,9,9,9,9,9,9,9];have zA:St B w0 alU ((.own 74 1 (.slice UY (ps.length+1) UZ) (ps.length+1) (((ps++[(z3.bb,z3.bx)])).flatMap jY))::(.blk LK (nR R.fx.length (upd U9 k X3.up) mm.off (.slice UY (ps.length+1) UZ) (.slice R.sA mm.aX.length R.sc) (.slice R.tA mm.bF.length R.tc) mm.calls) 40)::(.blk b1 oZ 40)::(N9++LF)):=by
   rw [hLF,hLC];exact St.ak9 (n:=k) (gs:=[.own 74 1 (.slice UY (ps.length+1) UZ) (ps.length+1) (((ps++[(z3.bb,z3.bx)])).flatMap jY),.blk LK (nR R.fx.length (upd U9 k X3.up) mm.off (.slice UY (ps.length+1) UZ) (.slice R.sA mm.aX.length R.sc) (.slice R.tA mm.bF.length R.tc) mm.calls) 40,.blk b1 oZ 40]) (N:=N9) (E:=[]) (fs:=fs) hk4 (by subst agF;subst bY;rw [BK,hz3,List.append_nil];rw [<-MG] at yh;exact yh)
  have Un:ps.length+1=(ps++[(z3.bb,z3.bx)]).length:=by simp
  rw [Un] at zA;refine bT (k+1,upd U9 k X3.up,(ps++[(z3.bb,z3.bx)]),UY,UZ,N9) ?_ rE (by first | omega | (dsimp only;omega));exact ⟨uQ,(by dsimp only;rw [List.length_append,abM];rfl),(by dsimp only;exact Od abM (λj p hp=>(agD j p hp).mono (λf hf=>hf)) (hLC▸ajH (G.mJ k hk4) BK hz3 hup hk4)),(by dsimp only;exact RV agE BK),zA⟩
 refine zN 13 ?_;refine stA 2 DI kQ ?_ (h1:=by exact ak7 (fl:=R.fx.length) (U:=U9) (d:=mm.off) (bv:= .slice OA ps.length oc) (sv:= .slice R.sA mm.aX.length R.sc) (tv:= .slice R.tA mm.bF.length R.tc) (calls:=mm.calls) rfl rfl rfl);intro alV tq;refine zN 5 ?_;have hsf:BL l=0:=asZ;refine ⟨λh=>absurd hsf h,λ_=>?_⟩;have qC:=tq.aU [2,1];have h5:k=5:=oQ;rw [hLF] at qC;refine ⟨_,[.own 74 1 (.slice OA ps.length oc) ps.length ((ps).flatMap jY)]++(N9++LC),rfl,?_,St.avk (gs:=[.own 74 1 (.slice OA ps.length oc) ps.length ((ps).flatMap jY)]) (N:=N9) (fs:=fs) (LC:=LC) qC⟩;rw [<-hmm];exact ajJ (ps:=ps) G oQ (λj hj=>agE j oQ) (List.mem_append_left _ (List.mem_singleton.2 rfl)) (λf hf=>List.mem_append_right _ (List.mem_append_right _ (hLC▸hf))) (λj p hp=>(agD j p hp).mono λf hf=>List.mem_append_right _ hf)
theorem apM {B:Nat} {w0 w:World} {fs:List Fact} {A:Option Addr} {c:Nat} {l:List Ac} (h0:BL l=0) (S:St B w0 w fs) (hu:Uk B w0) (AO:Ro fs 11 A l.length (l.flatMap Ac.cells)) (hb:l.length*88<=reachBytes):
  Calls Tryz.prog 15 #[.slice A l.length c] w (λe w'=> ∃ row L,e= .returned (.tuple #[.agg row,iV 0])/\Vp L (PD.run l) row/\St B w0 w' (L++fs)):=(abL S hu AO hb).mono λ_ _ h=>h.2 h0
structure OX where
 fl:Nat
 U:Nat->Bool
 d:Dir
 BA:Option Addr
 bc:Nat
 sA:Option Addr
 sn:Nat
 sc:Nat
 tA:Option Addr
 tn:Nat
 tc:Nat
 calls:Nat
def OX.cells (x:OX):List Value:=Fw x.fl x.U x.d (.slice x.BA 5 x.bc) (.slice x.sA x.sn x.sc) (.slice x.tA x.tn x.tc) x.calls
structure abN (L:List Fact) (m:Cl) (x:OX):Prop where
 up: ∀ j,j<5->x.U j=(m.au j).up
 d:x.d=m.off
 fl:x.fl=m.fly.length
 sn:x.sn=m.aX.length
 tn:x.tn=m.bF.length
 calls:x.calls=m.calls
 ps: ∃ ps:List (Nat×List BX),ps.length=5/\Ro L 1 x.BA 5 (ps.flatMap jY)/\ ∀ j p,ps[j]? =some p->P1 L m j p
 aX:Ro L 14 x.sA x.sn (m.aX.flatMap lD.cells)
 bF:Ro L 7 x.tA x.tn (m.bF.flatMap vY.cells)
theorem Vp.x {L:List Fact} {m:Cl} {row:Array Value} (h:Vp L m row): ∃ x:OX,row=x.cells.toArray/\abN L m x:=by
 obtain ⟨U,BA,bc,sA,sc,tA,tc,ps,rfl,hU,hl,hB,hs,ht,hP⟩:=h;exact ⟨⟨m.fly.length,U,m.off,BA,bc,sA,m.aX.length,sc,tA,m.bF.length,tc,m.calls⟩,rfl,hU,rfl,rfl,rfl,rfl,rfl,⟨ps,hl,hB,hP⟩,hs,ht⟩
theorem abN.mono {L L':List Fact} {m:Cl} {x:OX} (h:abN L m x) (hl: ∀ f∈L,f∈L'):abN L' m x:=by
 obtain ⟨h1,h2,h3,h4,h5,h6,⟨ps,h7,h8,h9⟩,h10,h11⟩:=h;exact ⟨h1,h2,h3,h4,h5,h6,⟨ps,h7,h8.mono hl,λj p hj=>(h9 j p hj).mono hl⟩,h10.mono hl,h11.mono hl⟩
def Yn (B:Nat) (w0:World) (fs:List Fact) (l:List Ac) (e:Ending) (w':World):Prop:= ∃ x L,e= .returned (.tuple #[.agg (OX.cells x).toArray,.bool true])/\abN L (PD.run l) x/\St B w0 w' (L++fs)
theorem ajK {α:Type} {l:List α} (h:l.length=5): ∃ a b c d e,l=[a,b,c,d,e]:=by
 match l,h with
 | [a,b,c,d,e],_=>exact ⟨a,b,c,d,e,rfl⟩
theorem abO {B:Nat} {w0 w:World} {fs:List Fact} {A:Option Addr} {c:Nat} {l:List Ac} (h0:BL l=0) (S:St B w0 w fs) (hu:Uk B w0) (AO:Ro fs 11 A l.length (l.flatMap Ac.cells)) (hb:l.length*88<=reachBytes):
    Calls Tryz.prog 7 #[.slice A l.length c] w (Yn B w0 fs l):=by
 refine gK 28 Tryz.func7 ?_;refine cw [0] ?_;refine zN 2 ?_;refine fT S afY ?_;intro b1 w2 S3;refine zN 6 ?_;refine dL eQ (apM h0 S3 hu (AO.mono (memT 1 rfl dN)) hb) ?_;rintro _ w4 ⟨aIX,L8,rfl,hO9,S5⟩;refine ⟨_,rfl,?_⟩;obtain ⟨x,rfl,hX⟩:=Vp.x hO9;obtain ⟨ps,hpl,hBA,hP⟩:=hX.ps;obtain ⟨p0,p1,p2,p3,p4,rfl⟩:=ajK hpl;have S6:=S5.perm (List.perm_middle (a:= .blk b1 oZ 40) (l₁:=L8) (l₂:=fs));have hmL: ∀ f∈L8,f∈L8++fs:=λf h=>List.mem_append_left _ h;obtain ⟨bA,oA,hBa⟩:=AL hBA S6 (memT 1 rfl hmL) dQ;refine zN 3 ?_;refine fT S6 afY ?_;intro b10 EW kP;refine stA 0 kP kQ ?_;intro Ce jP;refine zN 4 ?_;have iW:=jP.drew;refine aF 19 iW [1] ?_;refine aI 12 ?_;refine Dt (v:= .pointer (some ⟨bA,oA+0*1,none⟩)) (i:=12) (n:=6) rfl kQ kQ kQ (St.del 1 iW) rfl (wg rfl rfl rfl rfl) rfl rfl (λ_ _=>(aZ rfl rfl rfl (jM 0 hBa Tryz.underlying36 kQ dQ dQ))) ?_;refine Dt (v:= .slice (some ⟨p0.1,0,none⟩) 4 4) (i:=13) (n:=5) rfl kQ kQ kQ (St.del 1 iW) rfl (wg rfl rfl rfl rfl) rfl rfl (λ_ aa2=>(ah rfl rfl (aG (xK hBA hBa aa2 (memT 1 rfl hmL) rfl)))) ?_;refine aI 3 ?_;refine aY 17 ?_;refine Y0 17 rfl 1 iW kQ ?_;intro XV mX;refine aI 3 ?_;refine zN 3 ?_;have og:=mX.aU [1,0];exact ⟨x,L8,rfl,hX,og⟩
theorem afQ (x:Dir) (w:World):(binOp .neq 35 (.agg (x.cells).toArray) (.agg (x.cells).toArray)).run Tryz.prog w= .ok (.bool false) w:=
 EN w (l:=(.at_ (.int .i64):: .at_ (.int .i64):: .at_ (.int .i64):: .at_ (.int .i64):: .at_ (.int .i64):: .at_ (.int .i64):: .at_ (.int .i64):: .at_ (.int .i64)::[])) (by kernel_rfl) (by kernel_rfl) (λxs=>by unfold mkV;rw [Tryz.underlying35]) ⟨⟨_,rfl⟩,⟨_,rfl⟩,⟨_,rfl⟩,⟨_,rfl⟩,⟨_,rfl⟩,⟨_,rfl⟩,⟨_,rfl⟩,⟨_,rfl⟩,trivial⟩
theorem ajL (x:lD) (w:World):(binOp .neq 50 (.agg (x.cells).toArray) (.agg (x.cells).toArray)).run Tryz.prog w= .ok (.bool false) w:=
 EN w (l:=(.at_ (.int .i64):: .at_ (.int .i64):: .at_ (.int .i64):: .at_ (.int .i64):: .at_ (.int .i64):: .at_ (.int .i64):: .at_ (.int .i64):: .at_ (.int .i64):: .at_ (.int .i64):: .at_ (.int .i64):: .at_ (.int .i64):: .at_ (.int .i64):: .at_ (.int .i64):: .at_ (.int .i64)::[])) (by kernel_rfl) (by kernel_rfl) (λxs=>by unfold mkV;rw [Tryz.underlying50]) ⟨⟨_,rfl⟩,⟨_,rfl⟩,⟨_,rfl⟩,⟨_,rfl⟩,⟨_,rfl⟩,⟨_,rfl⟩,⟨_,rfl⟩,⟨_,rfl⟩,⟨_,rfl⟩,⟨_,rfl⟩,⟨_,rfl⟩,⟨_,rfl⟩,⟨_,rfl⟩,⟨_,rfl⟩,trivial⟩
theorem abP {d e:Dir} (h:e=d) (w:World):(binOp .neq 35 (.agg d.cells.toArray) (.agg e.cells.toArray)).run Tryz.prog w= .ok (.bool false) w:=by
 subst h;exact afQ _ w
theorem apO {s:List Ac} {A:Option Addr} {c:Nat} (h0: ∀ a∈s,aN a=0) (hl:s.length<=1000) (w:World) (ht:Bf w) (h:Rd w w.heap.size 11 A s.length (s.flatMap Ac.cells)):
  Calls Tryz.prog 5 #[.slice A s.length c] w (λe w'=>e= .returned (.tuple #[str (nW s),.int .i64 0,.int .i64 0])/\Below w.heap.size w w'):=by
 have H:=WG A c s w ht h;rw [Tg h0 hl] at H;exact H
theorem apP {s:List Ac} (h0: ∀ a∈s,aN a=0) (hl:s.length<=1000) (w:World) (ht:Bf w) (he:mO w):
  Calls Tryz.prog 6 #[str (nW s)] w (λe w'=> ∃ A c,e= .returned (.tuple #[.slice A s.length c,.int .i64 0,.int .i64 0])/\St w.heap.size w w' [.bI 11 A s.length (s.flatMap Ac.cells)]):=by
 have H:=Tq (nW s) w ht he;rw [Ti h0 hl] at H;exact H
theorem afR {gs:List Gr} {A:Option Addr} {c m:Nat} {cr:Bool} {s:List Ac} (hs:s=iI gs m cr) (hm:m<=1000) (hg: ∀ g∈gs,g.ok) (w:World) (h:Rd w w.heap.size 5 A gs.length (gs.flatMap Gr.cells)):
  Calls Tryz.prog 4 #[.slice A gs.length c,.int .i64 ((m:Nat):Int),.bool cr] w (λe w'=> ∃ A' c',e= .returned (.slice A' s.length c')/\St w.heap.size w w' [.own 53 11 (.slice A' s.length c') s.length (s.flatMap Ac.cells)]):=by
 subst hs;exact P8 hm hg w h
theorem abQ {l:List Ac} (h: ∀ a∈l,aN a=0) (hl:l.length<=100000):BL l=0:=by
 rw [OG (by omega)];clear hl
 induction l with
 | nil=>rfl
 | cons a l ih=>rw [vF,if_neg (by rw [h a List.mem_cons_self];simp),ih λx hx=>h x (List.mem_cons_of_mem _ hx)]
theorem alb {B:Nat} {w0 w:World} {fs:List Fact} {A:Option Addr} {c:Nat} {F:List Ac} (h0: ∀ a∈F,aN a=0) (hl:F.length<=1000) (S:St B w0 w fs) (hu:Uk B w0) (AO:Ro fs 11 A F.length (F.flatMap Ac.cells)):
  Calls Tryz.prog 7 #[.slice A F.length c] w (Yn B w0 fs F):=abO (abQ h0 (by omega)) S hu AO (by unfold reachBytes;omega)
theorem Ml {gs:List Gr} {s:List Ac} {A:Option Addr} {c:Nat} {w:World} (hs:s=iI gs 100 true) (hg: ∀ g∈gs,g.ok) (h0: ∀ a∈s,aN a=0) (hsl:s.length<=1000) (aIY:(PD.run s).aX.length<=1000000000) (hu:Uk w.heap.size w) (ht:Bf w) (he:mO w) (h:Rd w w.heap.size 5 A gs.length (gs.flatMap Gr.cells)):
    Calls Tryz.prog 3 #[.slice A gs.length c] w (λe w'=>e= .returned (.bool true)/\Below w.heap.size w w'):=by
 have S:=(St.start w).bX h;clear h;refine pI (N:=110) (vs:=[.slice A gs.length c]) Tryz.func3 rfl rfl rfl ?_;refine cw [0] ?_;refine YH (va ?_);refine aT (ay (aA (av (vm ?_))));refine dL eQ (afR (m:=100) hs (by decide) hg _ ((St.rd 0 S rfl))) ?_;rintro _ w3 ⟨A1,c2,rfl,T5⟩;refine ⟨_,rfl,?_⟩;have S4:=S.ext T5 rfl;clear T5 S;change St _ _ _ [.own 53 11 (.slice A1 s.length c2) s.length ((s).flatMap Ac.cells),_] at S4;refine va ?_;refine qk [2,3] ?_;refine yF (vm ?_);refine cab eQ S4 (apO h0 hsl _ (ht.on S4.low) ((St.ord 0 S4 rfl))) ?_;intro w6 S7;clear S4;refine vm ?_;refine vv yx ?_;refine vv yx ?_;refine vv yx ?_;iterate 3 refine va ?_
 refine qk [2,3,4,6] ?_;refine yF (vm ?_);refine dL eQ (apP h0 hsl _ (ht.on S7.low) (he.on S7.low)) ?_;rintro _ EW ⟨A9,c10,rfl,T13⟩;refine ⟨_,rfl,?_⟩;have kP:=S7.ext T13 rfl;clear T13 S7;change St _ _ _ [.bI 11 A9 s.length ((s).flatMap Ac.cells),_,_] at kP;refine vm ?_;refine vv yx ?_;refine vv yx ?_;refine vv yx ?_;iterate 3 refine va ?_
 refine qk [2,3,6,7,9] ?_;refine yF (vm ?_);refine dL eQ (alb h0 hsl kP hu (Ro.own (List.mem_of_getElem? (i:=1) rfl))) ?_;rintro _ LB ⟨x,L0,rfl,aBH,iW⟩;refine ⟨_,rfl,?_⟩;clear kP;have hX:=aBH;have jR:=iW.perm (show (L0++([.bI 11 A9 s.length ((s).flatMap Ac.cells),.own 53 11 (.slice A1 s.length c2) s.length ((s).flatMap Ac.cells),.rd 5 A gs.length ((gs).flatMap Gr.cells)]:List Fact)).Perm (([.bI 11 A9 s.length ((s).flatMap Ac.cells),.own 53 11 (.slice A1 s.length c2) s.length ((s).flatMap Ac.cells),.rd 5 A gs.length ((gs).flatMap Gr.cells)]:List Fact)++(L0++[])) by rw [List.append_nil];exact List.perm_append_comm);clear iW;change St _ _ _ ((.bI 11 A9 s.length ((s).flatMap Ac.cells))::(.own 53 11 (.slice A1 s.length c2) s.length ((s).flatMap Ac.cells))::(.rd 5 A gs.length ((gs).flatMap Gr.cells))::(L0++[])) at jR;have aBI: ∀ f∈L0,f∈(L0++[]):=λf h=>List.mem_append_left _ h;refine vm ?_;refine vv yx ?_;refine vv yx ?_;refine iD (V:=λb=> .pointer (some ⟨b,0,none⟩)) (row:= #[.int .i64 0,.bool false,.bool false,.bool false,.bool false,.bool false,.int .i64 0,.int .i64 0,.int .i64 0,.int .i64 0,.int .i64 0,.int .i64 0,.int .i64 0,.int .i64 0,.slice none 0 0,.slice none 0 0,.slice none 0 0,.int .i64 0]) (t:=40) jR (wn rfl) rfl rfl (fD rfl (Tryz.zeroValue40 _) rfl) ?_;intro b18 BZ kD;clear jR;refine fq (fs':=(_::_::_::_::(L0++[]))) 0 kD (wn rfl) rfl rfl rfl rfl rfl rfl kQ rfl (aM rfl) (Nat.le_of_ble_eq_true rfl) (lU rfl) rfl ?_;intro CW iM;clear kD;refine va ?_;refine qk [2,3,6,7,9,10,11] ?_;refine yF (vm ?_);refine dL eQ (alb h0 hsl iM hu (Ro.bI (List.mem_of_getElem? (i:=1) rfl))) ?_;rintro _ Jj ⟨x2,L2,rfl,aBJ,jq⟩;refine ⟨_,rfl,?_⟩;clear iM;have hX2:=aBJ;have iy:=jq.perm (List.perm_append_comm_assoc L2 ([.blk b18 #[.int .i64 ((x.fl:Nat):Int),.bool (x.U 0),.bool (x.U 1),.bool (x.U 2),.bool (x.U 3),.bool (x.U 4),.int .i64 x.d.p0.node,.int .i64 x.d.p0.epoch,.int .i64 x.d.p1.node,.int .i64 x.d.p1.epoch,.int .i64 x.d.p2.node,.int .i64 x.d.p2.epoch,.int .i64 x.d.p3.node,.int .i64 x.d.p3.epoch,.slice x.BA 5 x.bc,.slice x.sA x.sn x.sc,.slice x.tA x.tn x.tc,.int .i64 ((x.calls:Nat):Int)] 40,.bI 11 A9 s.length ((s).flatMap Ac.cells),.own 53 11 (.slice A1 s.length c2) s.length ((s).flatMap Ac.cells),.rd 5 A gs.length ((gs).flatMap Gr.cells)]:List Fact) (L0++[]));clear jq;change St _ _ _ ((.blk b18 #[.int .i64 ((x.fl:Nat):Int),.bool (x.U 0),.bool (x.U 1),.bool (x.U 2),.bool (x.U 3),.bool (x.U 4),.int .i64 x.d.p0.node,.int .i64 x.d.p0.epoch,.int .i64 x.d.p1.node,.int .i64 x.d.p1.epoch,.int .i64 x.d.p2.node,.int .i64 x.d.p2.epoch,.int .i64 x.d.p3.node,.int .i64 x.d.p3.epoch,.slice x.BA 5 x.bc,.slice x.sA x.sn x.sc,.slice x.tA x.tn x.tc,.int .i64 ((x.calls:Nat):Int)] 40)::(.bI 11 A9 s.length ((s).flatMap Ac.cells))::(.own 53 11 (.slice A1 s.length c2) s.length ((s).flatMap Ac.cells))::(.rd 5 A gs.length ((gs).flatMap Gr.cells))::(L2++(L0++[]))) at iy;have as2: ∀ f∈L2,f∈(L2++(L0++[])):=λf h=>List.mem_append_left _ h;have hmL: ∀ f∈L0,f∈(L2++(L0++[])):=λf h=>List.mem_append_right _ (aBI f h)
 refine vm ?_;refine vv yx ?_;refine vv yx ?_;refine iD (V:=λb=> .pointer (some ⟨b,0,none⟩)) (row:= #[.int .i64 0,.bool false,.bool false,.bool false,.bool false,.bool false,.int .i64 0,.int .i64 0,.int .i64 0,.int .i64 0,.int .i64 0,.int .i64 0,.int .i64 0,.int .i64 0,.slice none 0 0,.slice none 0 0,.slice none 0 0,.int .i64 0]) (t:=40) iy (wn rfl) rfl rfl (fD rfl (Tryz.zeroValue40 _) rfl) ?_;intro b27 XU oW;clear iy;refine fq (fs':=(_::_::_::_::_::(L2++(L0++[])))) 0 oW (wn rfl) rfl rfl rfl rfl rfl rfl kQ rfl (aM rfl) (Nat.le_of_ble_eq_true rfl) (lU rfl) rfl ?_;intro TY lg;clear oW;refine va ?_;refine qk [2,3,6,7,9,10,11,12,13] ?_;refine ay (aA (aA ?_));have hdx:x2.d=x.d:=hX2.d.trans hX.d.symm;have hsn:x2.sn=x.sn:=hX2.sn.trans hX.sn.symm;have htn:x2.tn=x.tn:=hX2.tn.trans hX.tn.symm;have hfl:x2.fl=x.fl:=hX2.fl.trans hX.fl.symm;refine av (vm ?_);refine vv (v:= .bool false) yno ?_;refine vm ?_;refine vg ym ?_;refine vg (v:= .bool false) yno ?_;refine vv Lu ?_;refine vm ?_;refine vg ym ?_;refine vg Lg ?_;refine vv Lu ?_;refine vm ?_;refine vg ym ?_;refine vg Lg ?_;refine vv Lu ?_;refine vm ?_;refine vg ym ?_;refine vg (v:= .int .i64 ((s.length:Nat):Int)) (cu (vs:=[.slice A9 s.length c10]) rfl ⟨rfl,trivial⟩ λ_=>kT rfl Tryz.underlying23) ?_;refine vg ym ?_;refine vg (v:= .int .i64 ((s.length:Nat):Int)) (cu (vs:=[.slice A1 s.length c2]) rfl ⟨rfl,trivial⟩ λ_=>kT rfl Tryz.underlying23) ?_;refine vg (ajZ rfl) ?_;refine vv Lu ?_;refine vm ?_;refine vg (TW 15) ?_;refine vg (ah rfl rfl (gU Tryz.underlying37 rfl (St.cl 1 lg rfl rfl))) ?_;refine vg (v:= .int .i64 ((x.sn:Nat):Int)) (cu (vs:=[.slice x.sA x.sn x.sc]) rfl ⟨rfl,trivial⟩ λ_=>kT rfl Tryz.underlying37) ?_;refine vg (TW 15) ?_;refine vg (ah rfl rfl (gU Tryz.underlying37 rfl (St.cl 0 lg rfl rfl))) ?_;refine vg (v:= .int .i64 ((x2.sn:Nat):Int)) (cu (vs:=[.slice x2.sA x2.sn x2.sc]) rfl ⟨rfl,trivial⟩ λ_=>kT rfl Tryz.underlying37) ?_;refine vg (Lg (h:=by omega)) ?_;refine vv Lu ?_;refine vm ?_;refine vg (TW 16) ?_;refine vg (ah rfl rfl (gU Tryz.underlying38 rfl (St.cl 1 lg rfl rfl))) ?_;refine vg (v:= .int .i64 ((x.tn:Nat):Int)) (cu (vs:=[.slice x.tA x.tn x.tc]) rfl ⟨rfl,trivial⟩ λ_=>kT rfl Tryz.underlying38) ?_;refine vg (TW 16) ?_;refine vg (ah rfl rfl (gU Tryz.underlying38 rfl (St.cl 0 lg rfl rfl))) ?_;refine vg (v:= .int .i64 ((x2.tn:Nat):Int)) (cu (vs:=[.slice x2.tA x2.tn x2.tc]) rfl ⟨rfl,trivial⟩ λ_=>kT rfl Tryz.underlying38) ?_;refine vg (Lg (h:=by omega)) ?_;refine vv Lu ?_;refine vm ?_;refine vg (TW 6) ?_;refine vg (ah rfl rfl (lT (cs:=[.int .i64 x.d.p0.node,.int .i64 x.d.p0.epoch,.int .i64 x.d.p1.node,.int .i64 x.d.p1.epoch,.int .i64 x.d.p2.node,.int .i64 x.d.p2.epoch,.int .i64 x.d.p3.node,.int .i64 x.d.p3.epoch]) Tryz.underlying35 rfl kQ rfl (St.rg 1 lg rfl (l8 (x:=6) (m:=8) rfl)))) ?_;refine vg (TW 6) ?_;refine vg (ah rfl rfl (lT (cs:=[.int .i64 x2.d.p0.node,.int .i64 x2.d.p0.epoch,.int .i64 x2.d.p1.node,.int .i64 x2.d.p1.epoch,.int .i64 x2.d.p2.node,.int .i64 x2.d.p2.epoch,.int .i64 x2.d.p3.node,.int .i64 x2.d.p3.epoch]) Tryz.underlying35 rfl kQ rfl (St.rg 0 lg rfl (l8 (x:=6) (m:=8) rfl)))) ?_
 refine vg (v:= .bool false) (aC rfl rfl rfl (Cn (by kernel_rfl) (abP hdx _))) ?_;refine vv Lu ?_;refine vm ?_;refine vg (TW 0) ?_;refine vg (ah rfl rfl (gU Tryz.underlying3 rfl (St.cl 1 lg rfl rfl))) ?_;refine vg (TW 0) ?_;refine vg (ah rfl rfl (gU Tryz.underlying3 rfl (St.cl 0 lg rfl rfl))) ?_;refine vg (Lg (h:=by omega)) ?_;refine vv Lu ?_;refine qk [2,10,12,91] ?_;refine YG (va ?_);refine qk [2,10,12,14] ?_;refine ay (gH (eP (X:=Nat) (λxv=>[(2,.bool false),(10,.pointer (some ⟨b18,0,none⟩)),(12,.pointer (some ⟨b27,0,none⟩)),(14,.int .i64 ((xv:Nat):Int))]) (λxv wr=>(xv<=x.sn)/\St w.heap.size w wr ((.blk b27 #[.int .i64 ((x2.fl:Nat):Int),.bool (x2.U 0),.bool (x2.U 1),.bool (x2.U 2),.bool (x2.U 3),.bool (x2.U 4),.int .i64 x2.d.p0.node,.int .i64 x2.d.p0.epoch,.int .i64 x2.d.p1.node,.int .i64 x2.d.p1.epoch,.int .i64 x2.d.p2.node,.int .i64 x2.d.p2.epoch,.int .i64 x2.d.p3.node,.int .i64 x2.d.p3.epoch,.slice x2.BA 5 x2.bc,.slice x2.sA x2.sn x2.sc,.slice x2.tA x2.tn x2.tc,.int .i64 ((x2.calls:Nat):Int)] 40)::(.blk b18 #[.int .i64 ((x.fl:Nat):Int),.bool (x.U 0),.bool (x.U 1),.bool (x.U 2),.bool (x.U 3),.bool (x.U 4),.int .i64 x.d.p0.node,.int .i64 x.d.p0.epoch,.int .i64 x.d.p1.node,.int .i64 x.d.p1.epoch,.int .i64 x.d.p2.node,.int .i64 x.d.p2.epoch,.int .i64 x.d.p3.node,.int .i64 x.d.p3.epoch,.slice x.BA 5 x.bc,.slice x.sA x.sn x.sc,.slice x.tA x.tn x.tc,.int .i64 ((x.calls:Nat):Int)] 40)::(.bI 11 A9 s.length ((s).flatMap Ac.cells))::(.own 53 11 (.slice A1 s.length c2) s.length ((s).flatMap Ac.cells))::(.rd 5 A gs.length ((gs).flatMap Gr.cells))::(L2++(L0++[])))) (λxv=>x.sn-xv) (0) ?_ ?_ ?_))
 ·exact ⟨Nat.zero_le _,lg⟩
 ·exact ⟨rfl,rfl,rfl,rfl,trivial⟩
 rintro i w32 ⟨Gb,kE⟩
 try dsimp only at Gb kE;clear lg
 refine bg (l':=[(2,.bool false),(10,.pointer (some ⟨b18,0,none⟩)),(12,.pointer (some ⟨b27,0,none⟩)),(14,.int .i64 ((i:Nat):Int))]) ⟨rfl,rfl,rfl,rfl,trivial⟩ (aA (aA (av (vm ?_))));refine vv (TW 15) ?_;refine vv (ah rfl rfl (gU Tryz.underlying37 rfl (St.cl 1 kE rfl rfl))) ?_;refine vv (v:= .int .i64 ((x.sn:Nat):Int)) (cu (vs:=[.slice x.sA x.sn x.sc]) rfl ⟨rfl,trivial⟩ λ_=>kT rfl Tryz.underlying37) ?_;by_cases h35:((i:Nat):Int)< ((x.sn:Nat):Int)
 ·refine vv (OP h35) ?_;refine qk [2,10,12,14,96] ?_;refine ay (dO rfl (fC (ay (aA (gH ?_)))));have hxl:=hX.sn;obtain ⟨sv,hsv⟩: ∃ y,(PD.run s).aX[i]? =some y:=⟨_,List.getElem?_eq_getElem (by omega)⟩;obtain ⟨bS,oS,hSa⟩:=AL hX.aX kE (memT 5 rfl hmL) (by omega);obtain ⟨bS2,oS2,as4⟩:=AL hX2.aX kE (memT 5 rfl as2) (by omega);refine aA (gZ kE mixed (by kernel_rfl) ?_);refine uv (v:= .pointer (some ⟨b18,15,none⟩)) (λ_ _=>TW 15) ?_;refine uv (v:= .slice x.sA x.sn x.sc) (λ_ aBK=>(ah rfl rfl (gU Tryz.underlying37 rfl (St.cl 1 aBK rfl rfl)))) ?_;refine uv (v:= .int .i64 ((i:Nat):Int)) (λ_ _=>ym) ?_;refine uv (v:= .pointer (some ⟨bS,oS+i*14,none⟩)) (λ_ _=>(aZ rfl rfl rfl (jM i hSa Tryz.underlying37 kQ rfl (by omega)))) ?_;refine uv (v:= .agg #[.int .i64 ((sv.nd:Nat):Int),.int .i64 ((sv.q:Nat):Int),.int .i64 sv.ep,.int .i64 sv.op.kind,.int .i64 sv.op.producer,.int .i64 sv.op.id,.int .i64 sv.op.body,.int .i64 sv.op.aL,.int .i64 sv.op.hno,.int .i64 sv.ans.code,.int .i64 sv.ans.iC,.int .i64 sv.ans.hno,.int .i64 sv.ans.body,.int .i64 sv.num]) (λ_ aly=>(ah rfl rfl (lT (cs:=lD.cells sv) Tryz.underlying50 rfl kQ rfl (λj u hu=>by rw [Nat.add_assoc];exact xK hX.aX hSa aly (memT 5 rfl hmL) (bU (enc:=lD.cells) (sz:=14) (k:=i) (λ_=>rfl) hsv hu))))) ?_;refine uv (v:= .pointer (some ⟨b27,15,none⟩)) (λ_ _=>TW 15) ?_;refine uv (v:= .slice x2.sA x2.sn x2.sc) (λ_ aBL=>(ah rfl rfl (gU Tryz.underlying37 rfl (St.cl 0 aBL rfl rfl)))) ?_;refine uv (v:= .int .i64 ((i:Nat):Int)) (λ_ _=>ym) ?_;refine uv (v:= .pointer (some ⟨bS2,oS2+i*14,none⟩)) (λ_ _=>(aZ rfl rfl rfl (jM i as4 Tryz.underlying37 kQ rfl (by omega)))) ?_;refine uv (v:= .agg #[.int .i64 ((sv.nd:Nat):Int),.int .i64 ((sv.q:Nat):Int),.int .i64 sv.ep,.int .i64 sv.op.kind,.int .i64 sv.op.producer,.int .i64 sv.op.id,.int .i64 sv.op.body,.int .i64 sv.op.aL,.int .i64 sv.op.hno,.int .i64 sv.ans.code,.int .i64 sv.ans.iC,.int .i64 sv.ans.hno,.int .i64 sv.ans.body,.int .i64 sv.num]) (λ_ aBM=>(ah rfl rfl (lT (cs:=lD.cells sv) Tryz.underlying50 rfl kQ rfl (λj u hu=>by rw [Nat.add_assoc];exact xK hX2.aX as4 aBM (memT 5 rfl as2) (bU (enc:=lD.cells) (sz:=14) (k:=i) (λ_=>rfl) hsv hu))))) ?_;refine uv (v:= .bool false) (λ_ _=>(aC rfl rfl rfl (Cn (by kernel_rfl) (ajL sv _)))) ?_;refine iG λw47 pW=>?_;clear kE;refine pk [2,10,12,14,109] ?_;refine ay (bZ rfl (fC (dz (ay (av (vm ?_))))));refine vv (v:= .int .i64 ((i+1:Nat):Int)) (aC rfl rfl rfl (qY (by omega) (by omega))) ?_;refine va ?_;refine qk [2,10,12,14] ?_;refine bT (i+1) ?_ ⟨rfl,rfl,rfl,rfl,trivial⟩ (by first | omega | (dsimp only;omega));exact ⟨(by omega),pW⟩
 refine vv (OQ h35) ?_;refine qk [2,10,12,14,96] ?_;refine ay (bZ rfl (qH (dR (dR (jN (ay (aA (av (va ?_)))))))));refine qk [2] ?_;refine Ux (pt ?_);exact ⟨rfl,kE.low⟩
section
variable {Q Q2 Q3 y:Qd} {l:List lD} {i j k:Nat} {a b:lD} {e:Ev}
def abR (Q Q':Qd):Prop:=Q.ep<Q'.ep\/Q.ep=Q'.ep/\Q.gv<=Q'.gv
theorem abR.trans (h:abR Q Q2) (h':abR Q2 Q3):abR Q Q3:=by unfold abR at*;omega
end
def Hy (b:bK):Prop:=serves b\/b.role=3
structure alc (m:Cl) (q o:Nat):Prop where
 lt:o<5
 me:Hy ((m.au o).view q)
 PE: ∀ n,n<5->n≠o->Hy ((m.au n).view q)->((m.au n).view q).ep< ((m.au o).view q).ep
def AtQ (m:Cl) (q o n:Nat) (a:Int) (one:Bool):Prop:=(a= -1/\ ∀ j,j<n-> ¬ Hy ((m.au j).view q))\/ ∃ k:Nat,a=((k:Nat):Int)/\k<n/\Hy ((m.au k).view q)/\(∀ j,j<n->Hy ((m.au j).view q)->((m.au j).view q).ep<=((m.au k).view q).ep)/\(o<n->k=o/\one=true)
section
variable {m:Cl} {q o n:Nat} {a:Int} {one:Bool}
theorem AtQ.first (h:AtQ m q o n a one) (hA:alc m q o) (ha:a<0) (hc:Hy ((m.au n).view q)):AtQ m q o (n+1) ((n:Nat):Int) true:=by
 rcases h with ⟨h1,h2⟩ | ⟨k,h1,h2,h3,h4,h5⟩
 ·exact .inr ⟨n,rfl,by omega,hc,λj hj hcj=>(Nat.lt_succ_iff_lt_or_eq.1 hj).elim (λh=>absurd hcj (h2 j h)) (λe=>e▸Int.le_refl _),λh=>⟨(Nat.lt_succ_iff_lt_or_eq.1 h).elim (λh=>absurd hA.me (h2 o h)) Eq.symm,rfl⟩⟩
 omega
theorem AtQ.more {k:Nat} (h:AtQ m q o n ((k:Nat):Int) one) (hA:alc m q o) (hn:n<5) (hc:Hy ((m.au n).view q)) (hg:((m.au k).view q).ep< ((m.au n).view q).ep):AtQ m q o (n+1) ((n:Nat):Int) true:=by
 rcases h with ⟨h1,h2⟩ | ⟨k',h1,h2,h3,h4,h5⟩
 ·omega
 obtain rfl:k=k':=oQ;refine .inr ⟨n,rfl,by omega,hc,λj hj hcj=>(Nat.lt_succ_iff_lt_or_eq.1 hj).elim (λh=>by have:=h4 j h hcj;omega) (λe=>e▸Int.le_refl _),λh=>⟨?_,rfl⟩⟩
 rcases Nat.lt_succ_iff_lt_or_eq.1 h with h | h
 ·exfalso
  obtain ⟨rfl,_⟩:=h5 h;by_cases e:n=k
  ·omega
  have:=hA.PE n hn e hc;omega
 exact h.symm
end
section
variable {m:Cl} {q n k:Nat} {g:Gh}
theorem LW.aX (h:LW m q g k) (hn:n<5) (hs:serves ((m.au n).view q)):n=g.o/\((m.au n).view q).ep=g.m:=by
 have I:=h.qi;have e:=Inv.who I hn hs;have:=I.aep;unfold vw at this;rw [<-e] at this;exact ⟨e,this⟩
end
section
variable {m:Cl} {q:Nat} {g:Gh} {G:Nat->Gh} {B:Nat}
def Bq (m:Cl) (k:Nat):Prop:=gu m (3*k) (2*(k*k)+8010*k) (2*(k*k)+8010*k) k
theorem adG: ∀ (l:List Ac) {m:Cl} {k:Nat},Bq m k->(∀ a∈l,abj a)->Bq (m.run l) (k+l.length)
 | [],m,k,h,_=>h
 | a::l,m,k,h,ha=>by
  have h1:Bq (m.act a) (k+1):=by
   have:=RQ h (ha a iQ);have e:(k+1)*(k+1)=k*k+2*k+1:=by rw [Nat.add_mul,Nat.mul_add];omega
   unfold Bq;rw [e];exact this.mono oQ oQ oQ oQ
  have:=adG l h1 (λx hx=>ha x (by simp [hx]));rw [List.length_cons,show k+(l.length+1)=k+1+l.length by omega];exact this
theorem aBN:Bq PD 0:=gu.mono asu oQ oQ oQ oQ
theorem ajM {l:List Ac} (h: ∀ a∈l,aN a=0) (hl:l.length<=16000):(PD.run l).aX.length<=1000000000:=by
 have h1:=(adG l aBN λa ha=>akV (h a ha)).aX;have h2:l.length*l.length<=16000*16000:=Nat.mul_le_mul hl hl;rw [Nat.zero_add] at h1;omega
end
theorem Ju (W:World) (hu:Uk W.heap.size W) (ht:Bf W) (he:mO W) (args:Array Value) (h:dW (Uv Tryz.prog W) args.toList Tryz.f3.params.toList):
  Calls Tryz.prog 3 args W λe W'=>e= .returned (.bool true)/\Below W.heap.size W W':=by
 rw [Tryz.params3] at h;obtain ⟨v,l1,hv,h1,h0⟩:=dW.yD h;have h4:=dW.wR h0;subst h4;obtain rfl:args= #[v]:=by cases args;simp_all
 obtain ⟨A,c,gs,rfl,hr,hg⟩:=aa0 h1;exact Ml rfl hg (Hg _ _ _) (by have:=Oa gs 100 true;omega) (ajM (Hg _ _ _) (by have:=Oa gs 100 true;omega)) hu ht he hr
end Go.Proofs.YtcomidffhiilcaaGreatDoor
