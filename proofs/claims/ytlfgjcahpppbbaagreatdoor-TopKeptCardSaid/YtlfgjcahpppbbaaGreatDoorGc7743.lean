import Derived.Test.YtlfgjcahpppbbaaGreatDoorG13bab
import Derived.Test.YtlfgjcahpppbbaaGreatDoorG24e3a
import Derived.Test.YtlfgjcahpppbbaaGreatDoorGb8e33
import Derived.Test.YtlfgjcahpppbbaaGreatDoorGd9fc7
set_option maxRecDepth 100000
set_option maxHeartbeats 8000000
set_option linter.unusedSimpArgs false
set_option linter.unusedVariables false
namespace Go.Proofs.YtlfgjcahpppbbaaGreatDoor
open ChangeShapes WideShapes RowKit
def dB.fit:dB->Prop
 | .serve q evs _ _ _=>q<4/\evs.length<=2000
 | .begun q _=>q<4
 | .got q _ _=>q<4
 | .gI q b _=>q<4/\au b=0
 | .forget q _=>q<4
noncomputable def Cl.more (w:Cl) (n:Nat):Cl:=if (w.ah n).pend=none then Cl.drain n (w.ah n).inbox w else w
def Nd.box (X:Nd) (r:List dK):Nd:={ X with inbox:=r }
section
variable {m:Cl} {n q:Nat} {X:Nd} {b b':bn}
theorem qP {α:Type} (f:Nat->α) (k:Nat) (u v:α):upd (upd f k u) k v=upd f k v:=by
 funext j
 unfold upd
 split<;>rfl
theorem He (h:(m.ah n).pend≠none):m.more n=m:=if_neg h
theorem TN (h:(m.ah n).inbox=[]):m.more n=m:=by
 unfold Cl.more;rw [h]
 split<;>rfl
theorem O6 {l:dK} {r:List dK} (h:(m.ah n).pend=none) (h1:(m.ah n).inbox=l::r) (hq:l.q<4):m.more n=((m.put n ((m.ah n).box r)).handle n l).more n:=by
 show m.more n=((m.put n { m.ah n with inbox:=r }).handle n l).more n
 have e:=(vo (m:=m.put n { m.ah n with inbox:=r }) (n:=n) (l:=l) hq).lC;rw [show (m.put n { m.ah n with inbox:=r }).ah n={ m.ah n with inbox:=r } from upd_same _ _ _] at e;unfold Cl.more;rw [if_pos h,h1,Cl.drain,e]
theorem uO (h:(m.ah n).up=false):m.step n=m:=if_pos h
theorem nM (h:(m.ah n).up=true) (h1:(m.ah n).pend=none):m.step n=if ((m.more n).ah n).pend=none then (m.more n).wY n else m.more n:=by
 unfold Cl.step;rw [if_neg (by rw [h];simp),h1];unfold Cl.more;rw [if_pos h1]
def Nd.jA (X:Nd):Nd:={ X with syn:=X.data.length,pend:=none }
def Nd.aK (X:Nd) (q:Nat) (b:bn):Nd:={ X with bs:=upd X.bs q b }
theorem uU (X:Nd) (q:Nat) (b:bn):(m.put n X).aK n q b=m.put n (X.aK q b):=by
 unfold Cl.aK Cl.put;dsimp only;rw [upd_same,qP];rfl
theorem qZ {p:dB} (hX:m.ah n=X) (hu:X.up=true) (hp:X.pend=some p):m.step n=(m.put n X.jA).yA n p:=by
 subst hX;unfold Cl.step;rw [if_neg (by rw [hu];simp),hp];rfl
theorem dw (X:Nd):(m.put n X).ah n=X:=upd_same _ _ _
theorem lg {evs:List Ev} {op:Ev} {num:Int} {a:iM} (hX:m.ah n=X) (hu:X.up=true) (hp:X.pend=some (.serve q evs op num a)) (hb:X.bs q=b) (hs:serves b):
  m.step n={ (m.put n (X.jA.aK q { b with evs:=evs })) with aQ:=m.aQ++[⟨n,q,b.ep,op,a,num⟩],shown:=iy m.shown n q (b.ep,evs.length),fly:=m.fly++[lK n num a nowhere] }:=by
 rw [qZ hX hu hp]
 show ((m.put n X.jA).aK n q { ((m.put n X.jA).ah n).bs q with evs:=evs }).done n q op num a=_
 rw [dw,uU,show X.jA.bs q=b from hb];rw [Fv (b:={ b with evs:=evs }) (dw _) (upd_same _ _ _) hs];rfl
theorem Ns {evs:List Ev} {op:Ev} {num:Int} {a:iM} (hX:m.ah n=X) (hu:X.up=true) (hp:X.pend=some (.serve q evs op num a)) (hb:X.bs q=b) (hs: ¬ serves b):
  m.step n={ (m.put n (X.jA.aK q { b with evs:=evs })) with fly:=m.fly++[lK n num a (X.hints q)] }:=by
 rw [qZ hX hu hp]
 show ((m.put n X.jA).aK n q { ((m.put n X.jA).ah n).bs q with evs:=evs }).done n q op num a=_
 rw [dw,uU,show X.jA.bs q=b from hb];rw [Jr (b:={ b with evs:=evs }) (dw _) (upd_same _ _ _) hs];rfl
theorem rG (hX:m.ah n=X) (hu:X.up=true) (hp:X.pend=some (.begun q b)):m.step n={ (m.put n (X.jA.aK q b)) with fly:=m.fly++[oC n q b] }:=by
 rw [qZ hX hu hp]
 show ((m.put n X.jA).aK n q b).have_ n q=_
 rw [uU];unfold Cl.have_ Cl.send;rw [dw,show (X.jA.aK q b).bs q=b from upd_same _ _ _];rfl
theorem mF (hX:m.ah n=X) (hu:X.up=true) (hp:X.pend=some (.got q b true)):
  m.step n={ (m.put n { (X.jA.aK q b) with sure:=upd X.sure q false }) with aQ:=m.aQ++[⟨n,q,b.ep,aI,eD,-1⟩],shown:=iy m.shown n q (b.ep,b.evs.length) }:=by
 rw [qZ hX hu hp];unfold Cl.yA;dsimp only;rw [if_pos rfl,uU];simp only [dw];unfold Cl.tell Cl.put;dsimp only;rw [qP,upd_same]
 show ({ m with ah:=_,aQ:=m.aQ++[⟨n,q,((X.jA.aK q b).bs q).ep,aI,eD,-1⟩],shown:=iy m.shown n q (((X.jA.aK q b).bs q).ep,((X.jA.aK q b).bs q).evs.length) }:Cl)=_
 rw [show (X.jA.aK q b).bs q=b from upd_same _ _ _];rfl
theorem xM (hX:m.ah n=X) (hu:X.up=true) (hp:X.pend=some (.got q b false)):m.step n={ (m.put n (X.jA.aK q b)) with fly:=m.fly++[oC n q b] }:=by
 rw [qZ hX hu hp];unfold Cl.yA;dsimp only;rw [if_neg iQ,uU];unfold Cl.have_ Cl.send;rw [dw,show (X.jA.aK q b).bs q=b from upd_same _ _ _];rfl
theorem uP {at_:Int} (hX:m.ah n=X) (hu:X.up=true) (hp:X.pend=some (.gI q b at_)):m.step n={ (m.put n (X.jA.aK q b)) with fly:=kZ n q b at_ m.fly }:=by
 rw [qZ hX hu hp]
 show ((m.put n X.jA).aK n q b).part n q at_=_
 rw [uU];unfold Cl.part Cl.send kZ;rw [dw,show (X.jA.aK q b).bs q=b from upd_same _ _ _]
 split
 ·rfl
 rfl
theorem pK (hX:m.ah n=X) (hu:X.up=true) (hp:X.pend=some (.forget q b)):m.step n=m.put n (X.jA.aK q b):=by
 rw [qZ hX hu hp]
 show (m.put n X.jA).aK n q b=_
 rw [uU]
end
theorem als {P:Program} {t e:TypeId} {A:Option Addr} {n c s:Nat} (k:Nat) (hu:P.underlying t=some (.slice e)) (hz:(P.info? e).map (·.size)=some s) (hk:k<=n) (w:World):
  (Instr.sliceAt t (.slice A n c) (some (.int .i64 ((k:Nat):Int))) none none).run P w= .ok (.slice (if c=k then A else A.map (·.add (k*s))) (n-k) (c-k)) w:=by
 obtain ⟨z,hq,hs⟩: ∃ z,P.info? e=some z/\z.size=s:=by
  cases h:P.info? e with
  | none=>simp [h] at hz
  | some z=>exact ⟨z,rfl,by simpa [h] using hz⟩
 have h1:(sizeOf e).run P w= .ok s w:=by simp [sizeOf,typeInfo,hq,hs,Sem.run_bind,Result.andThen]
 have hb:=λw=>ahX (P:=P) (n:=n) (c:=c) (kd:= .i64) k rfl hk w;simp [Instr.sliceAt,Instr.slice,run_underlying hu,Sem.run_bind,Result.andThen,hb,h1]
section
variable {K:CK} {B n:Nat} {w0 w w':World} {fs gs:List Fact} {m:Cl} {H:List LX}
theorem Wd.on (h:Wd K B w0 w fs m H) (hb:Below w.heap.size w w'):Wd K B w0 w' fs m H:=by
 obtain ⟨R,G,S⟩:=h;exact ⟨R,G,S.on hb⟩
theorem Wd.ext (h:Wd K B w0 w fs m H) (T:St w.heap.size w w' gs) (hg:gs.all Fact.IC=true):Wd K B w0 w' (gs++fs) m H:=by
 obtain ⟨R,G,S⟩:=h;refine ⟨R,G,?_⟩;have:=S.ext T hg;rwa [<-List.append_assoc] at this
theorem Wd.Iu (h:Wd K B w0 w (gs++fs) m H):St B w0 w gs:=by
 obtain ⟨R,_,S⟩:=h;exact S.sub (by rw [List.append_assoc];exact List.sublist_append_left _ _)
theorem Wd.less (h:Wd K B w0 w (gs++fs) m H):Wd K B w0 w fs m H:=by
 obtain ⟨R,G,S⟩:=h;exact ⟨R,G,S.sub (by rw [List.append_assoc];exact List.sublist_append_right _ _)⟩
theorem Wd.drew (h:Wd K B w0 w fs m H):Wd K B w0 w.drew fs m H:=by
 obtain ⟨R,G,S⟩:=h;exact ⟨R,G,S.drew⟩
end
theorem Nt {K:CK} {B n kn kw:Nat} {w0 w:World} {fs:List Fact} {m:Cl} {H:List LX} {x:LX} (hn:n<5) (hkn:K.nb n=kn) (bU:K.wb=kw) (hu:Uk B w0) (hB1:m.fly.length<=1000000000) (hB2:m.aQ.length<=1000000000000) (HW:Wd K B w0 w fs m (x::H)) (hq:x.l.q<4) (hv: ∀ q,q<4->au ((m.ah n).bs q)=0):
    Calls tP 87 #[pV kw 0,pV kn 0,.agg (LX.row x)] w (λe w'=>e= .returned (.tuple #[])/\Wd K B w0 w' fs (m.offered n x.l) H):=by
 obtain ⟨R,G,S0⟩:=HW.open hn;have hfl:R.fx.length=m.fly.length:=by rw [<-G.fly,List.length_map]
 have NG:=G.kr n hn;obtain ⟨X,hX⟩: ∃ X,m.ah n=X:=⟨_,rfl⟩;obtain ⟨z,hz⟩: ∃ z,R.nx n=z:=⟨_,rfl⟩;rw [hX,hz] at S0 NG;have hL: ∀ f∈R.L,f∈gy K R m fs n:=λf h=>List.mem_append_right _ (List.mem_append_right _ h);obtain ⟨rr,hrr⟩: ∃ r,gy K R m fs n=r:=⟨_,rfl⟩;rw [hrr] at S0 hL;have S:St B w0 w (cN kn n X z z.pv (cF kw R m rr)):=by subst hkn;subst bU;exact S0
 clear S0 HW;have hlen:=(S.own 1 rfl).1;rw [gL (sz:=6) (λ_=>rfl)] at hlen;rw [hX] at hv;obtain ⟨y,hy,hyb,sW⟩:=NG.at_ hq;have hln:=jZ (jv (hyb▸hv _ hq));have zC:y.b.evs.length*48<=reachBytes:=by unfold reachBytes;omega
 have Mq:=xJ (hyb▸hv _ hq);refine gu 59 Tryz.func87 ?_;refine cw [0,1,2] ?_;refine zN 2 ?_;refine VH S ?_;intro b1 w2 S3;refine VH S3 ?_;intro b4 w5 S6;refine iH S6 ?_;intro b7 w8 S9;refine zN 6 ?_;refine gq S9 zr3 ?_;intro b10 GI l5;refine jD (row':= #[iV ((x.l.q:Nat):Int)]) 0 l5 kQ ?_;intro Ey kD;refine zN 2 ?_;obtain ⟨BR,qp⟩: ∃ r,dG y.b x.l.ep x.l.fr=r:=⟨_,rfl⟩;have HP:=λw h=>Il y.b.role y.b.ep y.b.fr y.b.tg y.b.rd y.A y.c y.b.evs x.l.ep x.l.fr w h zC;rw [show dG ⟨y.b.role,y.b.ep,y.b.fr,y.b.tg,y.b.rd,y.b.evs⟩ x.l.ep x.l.fr=BR from qp] at HP;refine mh (X:=Nat×(Option Addr)×Nat) (λxv=>[(3,pV b1 0),(4,pV b4 0),(5,pV b7 0),(6,pV b10 0),(7,pV xv.1 0),(8,iV BR.2)]) (λxv wr=>(BR.1.evs.length<=xv.2.2)/\St B w0 wr ((.blk xv.1 (bR BR.1 xv.2.1 xv.2.2) 57)::(.bJ 6 xv.2.1 BR.1.evs.length ((BR.1.evs).flatMap Ev.cells))::(.blk b10 #[iV ((x.l.q:Nat):Int)] 3)::(.blk b7 (LX.row x) 140)::(.blk b4 #[pV kn 0] 106)::(.blk b1 #[pV kw 0] 95)::(cN kn n X z z.pv (cF kw R m rr)))) ?_ ?_
 ·have iG:=kD.drew;refine aN 18 iG [] ?_;refine aL 5 ?_;refine ak 5 rfl iG (λ_ _=>jf x.l.q) ?_;refine ak (v:= .agg (bR y.b y.A y.c)) 6 rfl iG (λ_ GK=>(aj rfl rfl (cZ (cs:=BX.cells y) (Rd.uq (St.ord 5 GK rfl) (λ_ _ h=>aW (enc:=BX.cells) (sz:=6) (λ_=>rfl) hy h))))) ?_;refine aL 4 ?_;refine gH (n:=6) (r:=11) (s:=15) kQ ?_ ?_
  ·refine jI 11 rfl eQ (HP _ (sW.1.rd iG (memT 11 rfl hL))) ?_;rintro _ SS ⟨A27,c28,awZ,rfl,T32⟩;refine ⟨_,rfl,?_⟩;have kV:=iG.ext T32 rfl;refine aL 4 ?_;refine aU 15 ?_;refine lH 15 rfl kV fP ?_;intro qK Te qJ;refine cO ?_;refine aU 16 ?_;refine sn 16 rfl 0 qJ kQ ?_;intro w39 rY;refine aL 3 ?_;refine bX (qK,A27,c28) ?_ rP;exact ⟨awZ,rY⟩
  refine lH 15 rfl iG fP ?_;intro ZM w43 Dc;refine cO ?_;refine aU 11 ?_;refine jI 11 rfl eQ (HP _ (sW.1.rd Dc (memT 12 rfl hL))) ?_;rintro _ ZG ⟨A45,c46,aw0,rfl,T50⟩;refine ⟨_,rfl,?_⟩;have uF:=Dc.ext T50 rfl;refine aL 4 ?_;refine aU 16 ?_;refine sn 16 rfl 1 uF kQ ?_;intro w54 uY;refine aL 3 ?_;have qW:=uY.eG [12,12,12,12,12,12,12,12,12,12,12,11,12];refine bX (ZM,A45,c46) ?_ rP;exact ⟨aw0,qW⟩
 rintro ⟨b58,Z5,c60⟩ w61 ⟨auR,GN⟩
 try dsimp only at auR GN
 refine aZ (l':=[(3,pV b1 0),(4,pV b4 0),(5,pV b7 0),(6,pV b10 0),(7,pV b58 0),(8,iV BR.2)]) rP (aH (aH (ay (vm ?_))));by_cases h64:BR.2=0
 ·refine zN 8 ?_;refine bV GN mixed kQ ?_;refine zN 7 ?_;refine uv (λ_ _=>jf x.l.q) ?_;refine zQ ?_;refine uv (v:=iV y.b.ep) (λ_ aoW=>(aj rfl rfl (aC (Rd.KU (i:=1) (St.ord 7 aoW rfl) (aW (enc:=BX.cells) (sz:=6) (λ_=>rfl) hy rfl))))) ?_;by_cases h75:BR.1.ep=y.b.ep
  ·refine zQ ?_;refine dh λw77 GU=>?_;refine zN 7 ?_;have Ci:=GU.eG [12,12,12,12,12,12,12];refine dF eQ (zA hn hq hy Ci oQ) ?_;rintro _ w84 ⟨rfl,A80,c81,aCx,auS,JW⟩;refine ⟨_,rfl,?_⟩;refine zQ ?_;refine bQ (l':=[]) trivial (gF (nW (ig (dS (rs:=[]) (vs:=[]) rfl trivial ?_))));rw [Rw hX hyb.symm qp (by first | assumption | omega) (by first | assumption | omega)];exact ⟨rfl,Wd.dL (X':=X) (z':=z) (Ls:=[.blk b58 (bR BR.1 Z5 c60) 57,.bJ 6 Z5 BR.1.evs.length ((BR.1.evs).flatMap Ev.cells),.blk b10 #[iV ((x.l.q:Nat):Int)] 3,.blk b7 (LX.row x) 140,.blk b4 #[pV kn 0] 106,.blk b1 #[pV kw 0] 95]) (fA:=A80) (fc:=c81) (fx:=aCx) (sA:=R.sA) (sc:=R.sc) (tA:=R.tA) (tc:=R.tc) hkn bU hrr G hn JW NG.more (by rw [auS];exact oD (iW rfl)) (aF hX).symm (by rw [auS,List.map_append,G.fly];rfl) mH⟩
  refine zQ ?_;refine dh λw87 JN=>?_;refine zN 8 ?_;refine cab eQ JN (jh 4 x.l.q ⟨BR.1,Z5,c60⟩ _) ?_;intro w89 S90;refine gq S90 xE ?_;intro b92 w93 FY;refine sa 0 FY kQ ?_;intro w95 D5;refine zN 7 ?_;refine jD (row':= #[iV 4,iV ((x.l.q:Nat):Int),iV BR.1.ep,iV x.l.fr,iV 0,iV 0,iV 0,iV 0,iV 0,iV 0]) 0 D5 kQ ?_;intro w97 D8;refine zN 7 ?_;refine NY D8 ?_;intro b99 aif wT;have tu:=wT.eG [14,14,14,14,14,14,14];refine dF eQ (pJ (rs:=[fG 4 x.l.q BR.1.ep x.l.fr aO]) (Ro.blk (List.mem_iff_getElem?.2 ⟨0,rfl⟩) rfl rfl) NG.yD (by exact memT 8 rfl hL) (Nat.le_of_ble_eq_true rfl) tu) ?_;rintro _ WH (⟨ad6,rfl,qb⟩ | ⟨ane,abH,c105,aCy,ad6,rfl,arV,qb⟩)
  ·refine ⟨_,rfl,?_⟩;refine zN 7 ?_;rw [Rx hX hyb.symm qp (by first | assumption | omega) (by first | assumption | omega) ad6];exact ⟨rfl,Wd.dL (X':=X) (z':=z) (Ls:=[.blk b99 #[iV 4,iV ((x.l.q:Nat):Int),iV BR.1.ep,iV x.l.fr,iV 0,iV 0,iV 0,iV 0,iV 0,iV 0] 171,.blk b92 #[iV 4,iV ((x.l.q:Nat):Int),iV BR.1.ep,iV x.l.fr,iV 0,iV 0,iV 0,iV 0,iV 0,iV 0] 171,.blk b58 (bR BR.1 Z5 c60) 57,.bJ 6 Z5 BR.1.evs.length ((BR.1.evs).flatMap Ev.cells),.blk b10 #[iV ((x.l.q:Nat):Int)] 3,.blk b7 (LX.row x) 140,.blk b4 #[pV kn 0] 106,.blk b1 #[pV kw 0] 95]) (fA:=R.fA) (fc:=R.fc) (fx:=R.fx) (sA:=R.sA) (sc:=R.sc) (tA:=R.tA) (tc:=R.tc) hkn bU hrr G hn qb NG.more (λu hu=> .inl hu) (aF hX).symm G.fly.symm mH⟩
  refine ⟨_,rfl,?_⟩;refine zN 8 ?_;refine vv JK ?_;refine zN 2 ?_;refine jD (row':=dI n X.up (.slice abH ane.length c105) X.syn (.slice (aD z.bb 0) 4 4) X.hints X.sure (.slice z.iA z.ix.length z.ic) (.func (.func 121) #[] #[pV b58 0,pV b4 0,pV b10 0,pV b1 0]) X.turn) 0 qb kQ ?_;intro abI wR;refine zQ ?_;refine bQ (l':=[]) trivial (aV (rs:=[]) (vs:=[]) rfl trivial ?_);rw [Yv hX hyb.symm qp (by first | assumption | omega) (by first | assumption | omega) ad6];refine ⟨rfl,Wd.fin (X':={ X with data:=ane,pend:=some (.begun x.l.q BR.1) }) (z':={ z with tA:=abH,tc:=c105,pv:= .func (.func 121) #[] #[pV b58 0,pV b4 0,pV b10 0,pV b1 0] }) (N:=aCy) (Ls:=[.blk b99 #[iV 4,iV ((x.l.q:Nat):Int),iV BR.1.ep,iV x.l.fr,iV 0,iV 0,iV 0,iV 0,iV 0,iV 0] 171,.blk b92 #[iV 4,iV ((x.l.q:Nat):Int),iV BR.1.ep,iV x.l.fr,iV 0,iV 0,iV 0,iV 0,iV 0,iV 0] 171,.blk b58 (bR BR.1 Z5 c60) 57,.bJ 6 Z5 BR.1.evs.length ((BR.1.evs).flatMap Ev.cells),.blk b10 #[iV ((x.l.q:Nat):Int)] 3,.blk b7 (LX.row x) 140,.blk b4 #[pV kn 0] 106,.blk b1 #[pV kw 0] 95]) (fA:=R.fA) (fc:=R.fc) (fx:=R.fx) (sA:=R.sA) (sc:=R.sc) (tA:=R.tA) (tc:=R.tc) hkn bU hrr G hn wR ?_ (λu hu=> .inl hu) rfl G.fly.symm mH⟩;refine { (NG.more:dW K _ n X z) with yD:=arV.mono mLN,nL:=?_ }
  show pI (K.nb n) K.wb _ _ _
  rw [hkn,bU];exact ⟨b58,b4,b10,b1,⟨BR.1,Z5,c60⟩,rfl,(sD (List.mem_iff_getElem?.2 ⟨2,rfl⟩)),rfl,⟨(Ro.bJ (sD (List.mem_iff_getElem?.2 ⟨3,rfl⟩))),auR⟩,(sD (List.mem_iff_getElem?.2 ⟨6,rfl⟩)),(sD (List.mem_iff_getElem?.2 ⟨4,rfl⟩)),(sD (List.mem_iff_getElem?.2 ⟨7,rfl⟩))⟩
 refine zN 7 ?_;have mG:=GN.eG [12,12,12,12,12,12,12];rw [Yu hX hyb.symm qp (by first | assumption | omega)];exact ⟨rfl,Wd.dL (X':=X) (z':=z) (Ls:=[.blk b58 (bR BR.1 Z5 c60) 57,.bJ 6 Z5 BR.1.evs.length ((BR.1.evs).flatMap Ev.cells),.blk b10 #[iV ((x.l.q:Nat):Int)] 3,.blk b7 (LX.row x) 140,.blk b4 #[pV kn 0] 106,.blk b1 #[pV kw 0] 95]) (fA:=R.fA) (fc:=R.fc) (fx:=R.fx) (sA:=R.sA) (sc:=R.sc) (tA:=R.tA) (tc:=R.tc) hkn bU hrr G hn mG NG.more (λu hu=> .inl hu) (aF hX).symm G.fly.symm mH⟩
theorem Vp (ro ep fr tg rd:Int) (A:Option Addr) (c:Nat) (l:List Ev) (kd qu e pe:Int) (x:Ev) (hlc:l.length<=c) (w:World) (h:Rd w w.heap.size 6 A l.length (bg l)) (hb:l.length*48<=reachBytes):
  Calls Tryz.prog 77 #[.agg #[iV ro,iV ep,iV fr,iV tg,iV rd,.slice A l.length c],.agg #[iV kd,iV qu,iV e,iV pe,iV x.kind,iV x.producer,iV x.id,iV x.body,iV x.aG,iV x.hno]] w (l8 w (eu ⟨ro,ep,fr,tg,rd,l⟩ ⟨kd,qu,e,pe,x⟩)):=by
 by_cases hk:1<=kd/\kd<=7
 ·rcases (by omega:kd=1\/kd=2\/kd=3\/kd=4\/kd=5\/kd=6\/kd=7) with rfl | rfl | rfl | rfl | rfl | rfl | rfl
  ·exact ag2 ro ep fr tg rd A c l qu e pe x hlc w h hb
  ·exact agY ro ep fr tg rd A c l qu e pe x hlc w h hb
  ·exact agK ro ep fr tg rd A c l qu e pe x hlc w h hb
  ·exact ag3 ro ep fr tg rd A c l qu e pe x hlc w h hb
  ·exact agZ ro ep fr tg rd A c l qu e pe x hlc w h hb
  ·exact ag0 ro ep fr tg rd A c l qu e pe x hlc w h hb
  exact ag1 ro ep fr tg rd A c l qu e pe x hlc w h hb
 exact agJ ro ep fr tg rd A c l kd qu e pe x hk w h hb
theorem Iw (w:World):(Instr.makeSlice 58 (iV 4) (iV 4)).run tP w= .ok (.slice (aD w.heap.size 0) 4 4) (w.alloc (.cells (sU.flatMap BX.cells).toArray 57)):=by
 obtain ⟨i0,hi0,hz0,hz1,hz2⟩:=info_parts (P:=tP) (e:=57) (z:= .agg zB) (size:=6) (bytes:=64) kQ;have:=run_makeSlice (P:=tP) w 58 57 i0 _ Tryz.underlying58 hi0 hz0 .i64 .i64 4 4 oQ oQ (by rw [hz1];decide) (by rw [hz2];omega) oQ;rw [this,hz1];rw [show madeCells (Value.agg zB).cells ((4:Int).toNat*6)=(sU.flatMap BX.cells).toArray from by kernel_rfl];rfl
theorem ag8: ∀ y∈sU,y.b.evs.length<=y.c/\y.b.evs.length<=0:=by
 intro y hy;simp [sU] at hy;subst hy;exact ⟨Nat.le_refl _,Nat.le_refl _⟩
theorem afi {bs:List BX} {k q:Nat} {z:BX} (h: ∀ y∈bs,y.b.evs.length<=y.c/\y.b.evs.length<=k) (h1:z.b.evs.length<=z.c) (h2:z.b.evs.length<=k+1): ∀ y∈bs.set q z,y.b.evs.length<=y.c/\y.b.evs.length<=k+1:=by
 intro y hy
 rcases List.mem_or_eq_of_mem_set hy with h3 | h3
 ·exact ⟨(h y h3).1,Nat.le_succ_of_le (h y h3).2⟩
 rw [h3];exact ⟨h1,h2⟩
theorem acH (A:Option Addr) (c:Nat) (l:List dD) (w:World) (h:Rd w w.heap.size 10 A l.length (l.flatMap dD.cells)) (hb:l.length*80<=reachBytes):
    Calls tP 49 #[.slice A l.length c] w (arx w (allM l)):=by
 have S:=(St.start w).bL h;have hb2:=hb;unfold reachBytes at hb2;refine gu 46 Tryz.func49 ?_;refine cw [0] ?_;refine zN 9 ?_;refine oM (V:=λb=> .slice (aD b 0) 4 4) (row:=(sU.flatMap BX.cells).toArray) (t:=57) (n:=4) (s:=6) (xs:=sU.flatMap BX.cells) S (wn rfl) rfl rfl (BQ rfl rfl rfl (Iw _)) rfl dQ rfl ?_;intro b1 w2 S3;refine zN 12 ?_;have S4:=ak6 S3;refine dN (X:=Nat×(List BX)) (λxv=>[(2,.slice none 0 0),(3,iV 0),(4,iV 0),(5,.slice (aD b1 0) 4 4),(12,.slice A l.length c),(13,iV ((l.length:Nat):Int)),(14,iV ((xv.1:Nat):Int))]) (λxv wr=>(xv.1<=l.length)/\(allM l=nT (l.drop xv.1) xv.1 (xv.2.map BX.b))/\(xv.2.length=4)/\(∀ y∈xv.2,y.b.evs.length<=y.c/\y.b.evs.length<=xv.1)/\St w.heap.size w wr ((oB b1 xv.2)::(.rd 10 A l.length ((l).flatMap dD.cells))::fB xv.2)) (λxv=>l.length-xv.1) (0,sU) ?_ ?_ ?_
 ·exact ⟨Nat.zero_le _,rfl,rfl,ag8,S4⟩
 ·exact tN
 rintro ⟨k,bs⟩ w5 ⟨Aw,G6,hi9,oz,S6⟩
 try dsimp only at Aw G6 hi9 oz S6
 refine aZ (l':=[(2,.slice none 0 0),(3,iV 0),(4,iV 0),(5,.slice (aD b1 0) 4 4),(12,.slice A l.length c),(13,iV ((l.length:Nat):Int)),(14,iV ((k:Nat):Int))]) tN (aH (ay ?_));by_cases h11:((k:Nat):Int)< ((l.length:Nat):Int)
 ·refine zN 12 ?_;obtain ⟨b12,o13,rfl⟩:=Rd.addr (St.rd 1 S6 rfl) oQ;obtain ⟨yR,Xd⟩:=DT k (St.rd 1 S6 rfl) oQ;refine vv (jf k) ?_;refine vv (aj rfl rfl (cZ (cs:=dD.cells yR) (Rd.uq (St.rd 1 S6 rfl) (λ_ _ h=>aW (enc:=dD.cells) (sz:=10) (λ_=>rfl) Xd h)))) ?_;refine gq S6 xE ?_;intro b16 Lb jc;refine zQ ?_;refine stA 0 jc kQ ?_;intro FX mM;refine zN 6 ?_;refine cab eQ mM (jH yR _) ?_;intro DW iX;refine zN 6 ?_;by_cases QW:aJ yR=0
  ·refine zN 7 ?_;have hrz:=Bf QW;have hq4:yR.queue.toNat<4:=oQ;obtain ⟨y,hy⟩: ∃ y,bs[yR.queue.toNat]? =some y:=⟨_,List.getElem?_eq_getElem oQ⟩;have sW:=oz y (List.mem_of_getElem? hy);obtain ⟨R,hR⟩: ∃ R,eu y.b yR=R:=⟨_,rfl⟩;have hap:eu (Jj (bs.map BX.b) yR.queue) yR=R:=by rw [ak5 hy];exact hR
   have hal:=abQ (b:=y.b) (r:=yR);rw [hR] at hal;have HP:=λw h=>Vp y.b.role y.b.ep y.b.fr y.b.tg y.b.rd y.A y.c y.b.evs yR.kind yR.queue yR.epoch yR.peer yR.ev sW.1 w h hQ;rw [show eu ⟨y.b.role,y.b.ep,y.b.fr,y.b.tg,y.b.rd,y.b.evs⟩ ⟨yR.kind,yR.queue,yR.epoch,yR.peer,yR.ev⟩=R from hR] at HP;have jE:=iX.drew;refine aN 13 jE [] ?_;refine aL 3 ?_;refine ak 3 rfl jE (λ_ _=>jf yR.queue.toNat) ?_;refine ak (v:= .agg (bR y.b y.A y.c)) 4 rfl jE (λ_ ach=>(aj rfl rfl (cZ (cs:=BX.cells y) (Rd.uq (St.ord 1 ach rfl) (λ_ _ h=>aW (enc:=BX.cells) (sz:=6) (λ_=>rfl) hy h))))) ?_;refine cO ?_;refine gH (n:=6) (r:=6) (s:=10) kQ ?_ ?_
   ·refine jI 6 rfl eQ (HP _ (aeS (pre:=[_,_,_]) jE hy)) ?_;rintro _ VO ⟨A32,c33,arW,rfl,T37⟩;refine ⟨_,rfl,?_⟩;have nQ:=jE.ext T37 rfl;refine aL 4 ?_;refine aU 10 ?_;refine lH 10 rfl nQ fP ?_;intro b41 VJ tT;refine cO ?_;refine aU 11 ?_;refine snA 11 rfl 0 tT kQ ?_;intro QX nX;refine aL 3 ?_;refine zN 5 ?_;by_cases h47:R.2=0
    ·refine zN 11 ?_;refine vv (jf yR.queue.toNat) ?_;refine lN (xs':=(bs.set yR.queue.toNat ⟨R.1,A32,c33⟩).flatMap BX.cells) 3 nX (wn rfl) rfl rfl rfl rfl rfl rfl xD rfl (bM rfl) (by omega) (by rw [Nat.zero_add];exact qA (enc:=BX.cells) (sz:=6) (λ_=>rfl) ⟨R.1,A32,c33⟩ _ bs (by omega)) ?_;intro ZG uF;refine zN 4 ?_;refine vv (v:=iV ((k+1:Nat):Int)) fJ ?_;refine zN 2 ?_;have oU:=uF.aP [2,0];have uX:=oU.eG [0,2,2];have lU:=aeT (pre:=[_,_]) (z:=⟨R.1,A32,c33⟩) (k:=yR.queue.toNat) uX oQ;refine aM (k+1,bs.set yR.queue.toNat ⟨R.1,A32,c33⟩) ?_ tN (by first | omega | (dsimp only;omega));exact ⟨uQ,(by dsimp only;rw [G6,Tn Xd QW hap h47,List.map_set]),(by dsimp only;rw [List.length_set];exact hi9),(afi oz arW (Nat.le_trans hal (Nat.succ_le_succ sW.2))),lU⟩
    refine zN 21 ?_;rw [show allM l=_ from G6.trans (ZL Xd QW hap h47)];exact ⟨λ_=>⟨rfl,nX.low⟩,λT h=>(by cases h)⟩
   refine lH 10 rfl jE fP ?_;intro b53 w54 uY;refine cO ?_;refine aU 6 ?_;refine jI 6 rfl eQ (HP _ (aeS (pre:=[_,_,_,_]) uY hy)) ?_;rintro _ w59 ⟨A56,c57,arX,rfl,T61⟩;refine ⟨_,rfl,?_⟩;have VX:=uY.ext T61 rfl;refine aL 4 ?_;refine aU 11 ?_;refine snA 11 rfl 1 VX kQ ?_;intro w65 F3;refine aL 3 ?_;refine zN 5 ?_;by_cases h68:R.2=0
   ·refine zN 11 ?_;refine vv (jf yR.queue.toNat) ?_;refine lN (xs':=(bs.set yR.queue.toNat ⟨R.1,A56,c57⟩).flatMap BX.cells) 3 F3 (wn rfl) rfl rfl rfl rfl rfl rfl xD rfl (bM rfl) (by omega) (by rw [Nat.zero_add];exact qA (enc:=BX.cells) (sz:=6) (λ_=>rfl) ⟨R.1,A56,c57⟩ _ bs (by omega)) ?_;intro w69 uh;refine zN 4 ?_;refine vv (v:=iV ((k+1:Nat):Int)) fJ ?_;refine zN 2 ?_;have lu:=uh.aP [2,1];have Bb:=lu.eG [0,2,2];have tY:=aeT (pre:=[_,_]) (z:=⟨R.1,A56,c57⟩) (k:=yR.queue.toNat) Bb oQ;refine aM (k+1,bs.set yR.queue.toNat ⟨R.1,A56,c57⟩) ?_ tN (by first | omega | (dsimp only;omega));exact ⟨uQ,(by dsimp only;rw [G6,Tn Xd QW hap h68,List.map_set]),(by dsimp only;rw [List.length_set];exact hi9),(afi oz arX (Nat.le_trans hal (Nat.succ_le_succ sW.2))),tY⟩
   refine zN 21 ?_;rw [show allM l=_ from G6.trans (ZL Xd QW hap h68)];exact ⟨λ_=>⟨rfl,F3.low⟩,λT h=>(by cases h)⟩
  refine zN 21 ?_;rw [show allM l=_ from G6.trans (ak2 Xd QW)];exact ⟨λ_=>⟨rfl,iX.low⟩,λT h=>(by cases h)⟩
 refine zN 20 ?_;have Lc:=S6.aP [1];rw [show allM l=_ from G6.trans (ak3 oQ)];exact ⟨λh=>(by cases h),λT h=>(by cases h;exact ⟨b1,bs,rfl,hi9,λy hy=>(oz y hy).1,rfl,Lc⟩)⟩
theorem KA (bs:List BX):(fB bs).all Fact.IC=true:=by
 unfold fB;rw [List.all_map];exact List.all_eq_true.2 λ_ _=>rfl
theorem Iy (A:Option Addr) (c:Nat) (l:List UInt8) (s:Int) (w:World) (h:Rd w w.heap.size 1 A l.length (byteCells l)) {TT:List bn} (hT:DC l s=some TT) (hb:(uI (jr l s).1 (jr l s).2.1).1.length*80<=reachBytes):
    Calls Tryz.prog 24 #[.agg #[.slice A l.length c,iV s]] w (λe w'=> ∃ A2 c2 b bs,bs.map BX.b=TT/\bs.length=4/\(∀ y∈bs,y.b.evs.length<=y.c)/\e= .returned (.tuple #[.agg #[.slice A2 (jr l s).1.length c2,iV (jr l s).2.1],.slice (aD b 0) 4 4])/\St w.heap.size w w' (.own 57 6 (.slice (aD b 0) 4 4) 4 (bs.flatMap BX.cells):: .bJ 1 A2 (jr l s).1.length (byteCells (jr l s).1)::fB bs)):=by
 have S:=(St.start w).bL h;unfold DC at hT;have HR:=λw h=>Rj A c l s w h;obtain ⟨P1,hP1⟩: ∃ r,jr l s=r:=⟨_,rfl⟩;rw [hP1] at hT hb HR⊢;have HD:=λA c w h=>Ed A c P1.1 P1.2.1 w h;obtain ⟨P2,hP2⟩: ∃ r,uI P1.1 P1.2.1=r:=⟨_,rfl⟩;rw [hP2] at hT hb HD;refine gu 31 Tryz.func24 ?_;refine cw [0] ?_;refine zN 2 ?_;refine iH S ?_;intro b1 w2 S3;refine gq S3 zI ?_;intro b4 w5 S6;refine zN 6 ?_;refine dF eQ (HR _ (St.rd 2 S6 rfl)) ?_;rintro _ w9 ⟨A7,c8,rfl,T11⟩;refine ⟨_,rfl,?_⟩;have qx:=S6.ext T11 rfl;refine zN 3 ?_;refine gq qx zI ?_;intro b12 Ey kD;refine sa 0 kD kQ ?_;intro JV lV;refine zN 6 ?_;refine dF eQ (HD A7 c8 _ (St.bJ 1 lV rfl)) ?_;rintro _ FX ⟨M6,c18,rfl,T21⟩;refine ⟨_,rfl,?_⟩;have mM:=lV.ext T21 rfl;refine zN 12 ?_;refine dF eQ (((acH M6 c18 P2.1 _ (St.ord 0 mM rfl) hb).mono λ_ _ h=>h.2 TT hT)) ?_;rintro _ H9 ⟨Ta,bs,hm,hl,hcc,rfl,T26⟩;refine ⟨_,rfl,?_⟩;have iP:=mM.ext T26 (by simp [KA,Fact.IC]);have jE:St _ _ H9 ((oB Ta bs)::(.own 171 10 (.slice M6 P2.1.length c18) P2.1.length ((P2.1).flatMap dD.cells))::(.blk b12 #[.slice A7 P1.1.length c8,iV P1.2.1] 109)::(.bJ 1 A7 P1.1.length (byteCells P1.1))::(.blk b4 #[.slice none 0 0,iV 0] 109)::(.blk b1 #[.slice A l.length c,iV s] 109)::(.rd 1 A l.length (byteCells l))::fB bs):=St.perm iP (List.Perm.cons _ (List.perm_append_comm (l₁:=fB bs)));clear mM;refine zN 13 ?_;refine stA 4 jE kQ ?_;intro MW qy;refine zN 5 ?_;have qH:=qy.aP [6,5,4,2,1];exact ⟨A7,c8,Ta,bs,hm,hl,hcc,rfl,qH⟩
theorem nG {B kn n turn:Nat} {up:Bool} {tv bv iv pv:Value} {syn:Int} {Hh:Nat->Pl} {Us:Nat->Bool} {w0 w:World} {fs:List Fact} (S:St B w0 w ((.blk kn (dI n up (tv) syn (bv) Hh Us (iv) (pv) turn) 113)::fs)) (hu:Uk B w0):
    Calls Tryz.prog 38 #[pV kn 0] w (λe w'=>e= .returned (.tuple #[])/\ ∃ bb:Nat,St B w0 w' ((.blk kn (dI n up (tv) syn (.slice (aD bb 0) 4 4) (λ_=>nowhere) (λ_=>false) (.slice none 0 0) (.nilFunc) turn) 113):: .own 57 6 (.slice (aD bb 0) 4 4) 4 (sU.flatMap BX.cells)::fs)):=by
 refine gu 27 Tryz.func38 ?_;refine cw [0] ?_;refine zN 3 ?_;refine oM (V:=λb=> .slice (aD b 0) 4 4) (row:=(sU.flatMap BX.cells).toArray) (t:=57) (n:=4) (s:=6) (xs:=sU.flatMap BX.cells) S (wn rfl) rfl rfl (BQ rfl rfl rfl (Iw _)) rfl dQ rfl ?_;intro b1 w2 S3;refine zN 2 ?_;refine jD (row':=dI n up (tv) syn (.slice (aD b1 0) 4 4) Hh Us (iv) (pv) turn) 1 S3 kQ ?_;intro w4 S5;refine zN 5 ?_;refine vv (v:= .agg #[.bool false,.bool false,.bool false,.bool false]) yz ?_;refine zN 2 ?_;refine jD (row':=dI n up (tv) syn (.slice (aD b1 0) 4 4) Hh (λ_=>false) (iv) (pv) turn) 1 S5 kQ ?_;intro w6 S7;refine zN 9 ?_;refine N8 (mK (aH (ay (vv Dk ?_))));refine zN 14 ?_;have S8:=S7.drew;refine aN 7 S8 [1] ?_;refine aL 2 ?_;refine ak (v:= .agg #[iV (-1),iV 0]) 2 rfl (St.del 1 S8) (λ_ aCz=>(aj rfl rfl (cZ (cs:=[iV (-1),iV 0]) (Uk.rg hu aCz)))) ?_;refine aL 2 ?_;refine ak (v:=pV kn (5+0*2)) 5 rfl (St.del 1 S8) (λ_ _=>(aR rfl rfl rfl (fH 0 Tryz.underlying28 kQ rfl dQ))) ?_;refine aU 6 ?_;refine uw (i:=6) rfl rfl (cs:= #[iV (-1),iV 0]) (row':=dI n up (tv) syn (.slice (aD b1 0) 4 4) (upd Hh 0 (⟨-1,0⟩:Pl)) (λ_=>false) (iv) (pv) turn) (fs':=(_::(.blk kn (dI n up (tv) syn (.slice (aD b1 0) 4 4) (upd Hh 0 (⟨-1,0⟩:Pl)) (λ_=>false) (iv) (pv) turn) 113)::fs)) 1 S8 (wn rfl) rfl rfl rfl rfl rfl rfl MF rfl (bM rfl) (by rw [show Array.size (dI _ _ _ _ _ _ _ _ _ _)=20 from rfl];omega) (EH (by decide) (p:=(⟨-1,0⟩:Pl))) rfl ?_;intro JV lV;refine aL 2 ?_;refine zN 3 ?_;refine vv (v:=iV 1) fJ ?_;refine zN 2 ?_;refine pY (mK (aH (ay (vv Dk ?_))));refine zN 14 ?_;have kP:=lV.drew;refine aN 7 kP [1] ?_;refine aL 2 ?_;refine ak (v:= .agg #[iV (-1),iV 0]) 2 rfl (St.del 1 kP) (λ_ acu=>(aj rfl rfl (cZ (cs:=[iV (-1),iV 0]) (Uk.rg hu acu)))) ?_;refine aL 2 ?_;refine ak (v:=pV kn (5+1*2)) 5 rfl (St.del 1 kP) (λ_ _=>(aR rfl rfl rfl (fH 1 Tryz.underlying28 kQ rfl dQ))) ?_;refine aU 6 ?_;refine uw (i:=6) rfl rfl (cs:= #[iV (-1),iV 0]) (row':=dI n up (tv) syn (.slice (aD b1 0) 4 4) (upd (upd Hh 0 (⟨-1,0⟩:Pl)) 1 (⟨-1,0⟩:Pl)) (λ_=>false) (iv) (pv) turn) (fs':=(_::(.blk kn (dI n up (tv) syn (.slice (aD b1 0) 4 4) (upd (upd Hh 0 (⟨-1,0⟩:Pl)) 1 (⟨-1,0⟩:Pl)) (λ_=>false) (iv) (pv) turn) 113)::fs)) 1 kP (wn rfl) rfl rfl rfl rfl rfl rfl MF rfl (bM rfl) (by rw [show Array.size (dI _ _ _ _ _ _ _ _ _ _)=20 from rfl];omega) (EH (by decide) (p:=(⟨-1,0⟩:Pl))) rfl ?_;intro Oq jE;refine aL 2 ?_;refine zN 3 ?_;refine vv (v:=iV 2) fJ ?_;refine zN 2 ?_;refine pY (mK (aH (ay (vv Dk ?_))));refine zN 14 ?_;have l6:=jE.drew;refine aN 7 l6 [1] ?_;refine aL 2 ?_;refine ak (v:= .agg #[iV (-1),iV 0]) 2 rfl (St.del 1 l6) (λ_ acI=>(aj rfl rfl (cZ (cs:=[iV (-1),iV 0]) (Uk.rg hu acI)))) ?_;refine aL 2 ?_;refine ak (v:=pV kn (5+2*2)) 5 rfl (St.del 1 l6) (λ_ _=>(aR rfl rfl rfl (fH 2 Tryz.underlying28 kQ rfl dQ))) ?_;refine aU 6 ?_;refine uw (i:=6) rfl rfl (cs:= #[iV (-1),iV 0]) (row':=dI n up (tv) syn (.slice (aD b1 0) 4 4) (upd (upd (upd Hh 0 (⟨-1,0⟩:Pl)) 1 (⟨-1,0⟩:Pl)) 2 (⟨-1,0⟩:Pl)) (λ_=>false) (iv) (pv) turn) (fs':=(_::(.blk kn (dI n up (tv) syn (.slice (aD b1 0) 4 4) (upd (upd (upd Hh 0 (⟨-1,0⟩:Pl)) 1 (⟨-1,0⟩:Pl)) 2 (⟨-1,0⟩:Pl)) (λ_=>false) (iv) (pv) turn) 113)::fs)) 1 l6 (wn rfl) rfl rfl rfl rfl rfl rfl MF rfl (bM rfl) (by rw [show Array.size (dI _ _ _ _ _ _ _ _ _ _)=20 from rfl];omega) (EH (by decide) (p:=(⟨-1,0⟩:Pl))) rfl ?_;intro ZA qo
 refine aL 2 ?_;refine zN 3 ?_;refine vv (v:=iV 3) fJ ?_;refine zN 2 ?_;refine pY (mK (aH (ay (vv Dk ?_))));refine zN 14 ?_;have uf:=qo.drew;refine aN 7 uf [1] ?_;refine aL 2 ?_;refine ak (v:= .agg #[iV (-1),iV 0]) 2 rfl (St.del 1 uf) (λ_ aoX=>(aj rfl rfl (cZ (cs:=[iV (-1),iV 0]) (Uk.rg hu aoX)))) ?_;refine aL 2 ?_;refine ak (v:=pV kn (5+3*2)) 5 rfl (St.del 1 uf) (λ_ _=>(aR rfl rfl rfl (fH 3 Tryz.underlying28 kQ rfl dQ))) ?_;refine aU 6 ?_;refine uw (i:=6) rfl rfl (cs:= #[iV (-1),iV 0]) (row':=dI n up (tv) syn (.slice (aD b1 0) 4 4) (upd (upd (upd (upd Hh 0 (⟨-1,0⟩:Pl)) 1 (⟨-1,0⟩:Pl)) 2 (⟨-1,0⟩:Pl)) 3 (⟨-1,0⟩:Pl)) (λ_=>false) (iv) (pv) turn) (fs':=(_::(.blk kn (dI n up (tv) syn (.slice (aD b1 0) 4 4) (upd (upd (upd (upd Hh 0 (⟨-1,0⟩:Pl)) 1 (⟨-1,0⟩:Pl)) 2 (⟨-1,0⟩:Pl)) 3 (⟨-1,0⟩:Pl)) (λ_=>false) (iv) (pv) turn) 113)::fs)) 1 uf (wn rfl) rfl rfl rfl rfl rfl rfl MF rfl (bM rfl) (by rw [show Array.size (dI _ _ _ _ _ _ _ _ _ _)=20 from rfl];omega) (EH (by decide) (p:=(⟨-1,0⟩:Pl))) rfl ?_;intro VJ tT;refine aL 2 ?_;refine zN 3 ?_;refine vv (v:=iV 4) fJ ?_;refine zN 2 ?_;refine pY (mK (aH (ay (vv amj ?_))));refine zN 14 ?_;refine jD (row':=dI n up (tv) syn (.slice (aD b1 0) 4 4) (upd (upd (upd (upd Hh 0 (⟨-1,0⟩:Pl)) 1 (⟨-1,0⟩:Pl)) 2 (⟨-1,0⟩:Pl)) 3 (⟨-1,0⟩:Pl)) (λ_=>false) (.slice none 0 0) (pv) turn) 1 tT kQ ?_;intro QX nX;refine zN 2 ?_;refine jD (row':=dI n up (tv) syn (.slice (aD b1 0) 4 4) (upd (upd (upd (upd Hh 0 (⟨-1,0⟩:Pl)) 1 (⟨-1,0⟩:Pl)) 2 (⟨-1,0⟩:Pl)) 3 (⟨-1,0⟩:Pl)) (λ_=>false) (.slice none 0 0) (.nilFunc) turn) 1 nX kQ ?_;intro VW yg;refine zQ ?_;refine bQ (l':=[]) trivial (aV (rs:=[]) (vs:=[]) rfl trivial ?_);have vO:=yg.eG [0,1];exact ⟨rfl,b1,vO⟩
theorem acJ {calls:Nat} {nv fv sv tv x:Value} {d:Dir} {sh:Nat->Nat->Int×Int}:cu (kS nv d fv sh sv tv calls) 0 [x]=kS x d fv sh sv tv calls:=IJ (Nat.le_of_ble_eq_true rfl) rfl
theorem St.flip {B:Nat} {w0 w:World} {gs fs:List Fact} (S:St B w0 w (gs++fs)):St B w0 w (fs++gs):=S.perm List.perm_append_comm
def anf (a b c d e:Nat):Nat->Nat
 | 0=>a
 | 1=>b
 | 2=>c
 | 3=>d
 | _=>e
theorem O7 {L:List Fact}: ∀ y∈sU,Ct L y:=λy hy=>by
 have:y=Rh:=by simpa [sU] using hy
 subst this;exact ⟨Ro.none_,Nat.zero_le _⟩
theorem Vq {B:Nat} {w0 w:World} {fs:List Fact} (S:St B w0 w fs) (hu:Uk B w0):
    Calls Tryz.prog 22 #[] w (λe w'=> ∃ K:CK,e= .returned (pV K.wb 0)/\Wd K B w0 w' fs mD []):=by
 refine gu 27 Tryz.func22 ?_;refine aZ (l':=[]) trivial (aH (ay (va ?_)));refine zN 4 ?_;refine dF eQ (Yh _ (Uk.nw hu S)) ?_;rintro _ w1 ⟨rfl,hb3⟩;refine ⟨_,rfl,?_⟩;have S2:=S.on hb3;refine vv (v:= .agg (kS (.slice none 0 0) (⟨nowhere,nowhere,nowhere,nowhere⟩:Dir) (.slice none 0 0) (λ_ _=>(0,0)) (.slice none 0 0) (.slice none 0 0) 0)) gD ?_;refine iH S2 ?_;intro b4 w5 S6;refine zN 10 ?_;refine N8 (mK (aH (ay (vv Dk ?_))));refine zN 17 ?_;refine vv (v:= .agg (dI 0 true (.slice none 0 0) 0 (.slice none 0 0) (λ_=>(⟨0,0⟩:Pl)) (λ_=>false) (.slice none 0 0) (.nilFunc) 0)) gD ?_;refine iH S6 ?_;intro b7 w8 S9;refine zN 6 ?_;refine dF eQ (nG S9 hu) ?_;rintro _ GI ⟨rfl,aCA,l5⟩;refine ⟨_,rfl,?_⟩;refine zN 2 ?_;have uZ:=l5.nil 106 1;refine zN 5 ?_;refine vv (aj rfl rfl (aC (St.cl 3 uZ rfl AV))) ?_;refine zQ ?_;refine bsI uZ ?_;intro b14 JV lV;refine dx (news:=[pV b7 0]) (xs':=[gT b7]) 1 lV (wn rfl) rfl rfl rfl rfl rfl rfl (St.lD (xs:=[pV b7 0]) 0 lV rfl rfl rfl) Tryz.underlying98 Es rfl dQ (bM rfl) lQ oQ rfl ?_;intro M6 c18 FX hc21 aKE mM;refine zN 2 ?_;refine jD 4 mM kQ ?_ (hs:=by exact acJ);intro H9 iP;refine zN 4 ?_;refine vv (v:=iV 1) fJ ?_;refine zN 2 ?_;refine pY (mK (aH (ay (vv Dk ?_))));refine zN 17 ?_;refine vv (v:= .agg (dI 1 true (.slice none 0 0) 0 (.slice none 0 0) (λ_=>(⟨0,0⟩:Pl)) (λ_=>false) (.slice none 0 0) (.nilFunc) 0)) gD ?_;refine iH iP ?_;intro SV Om tX;refine zN 6 ?_;refine dF eQ (nG tX hu) ?_;rintro _ w29 ⟨rfl,aCB,Cj⟩;refine ⟨_,rfl,?_⟩;refine zN 7 ?_;refine vv (aj rfl rfl (aC (St.cl 6 Cj rfl AV))) ?_;refine zQ ?_;refine bsI Cj ?_;intro b31 w32 rW;refine dx (news:=[pV SV 0]) (xs':=[gT b7,gT SV]) 4 rW (wn rfl) rfl rfl rfl rfl rfl rfl (St.lD (xs:=[pV SV 0]) 0 rW rfl rfl rfl) Tryz.underlying98 Es rfl dQ (bM rfl) lQ oQ rfl ?_;intro A34 c35 w36 hc38 aBD qz;refine zN 2 ?_;refine jD 7 qz kQ ?_ (hs:=by exact acJ);intro w40 JL;refine zN 4 ?_;refine vv (v:=iV 2) fJ ?_;refine zN 2 ?_;refine pY (mK (aH (ay (vv Dk ?_))));refine zN 17 ?_;refine vv (v:= .agg (dI 2 true (.slice none 0 0) 0 (.slice none 0 0) (λ_=>(⟨0,0⟩:Pl)) (λ_=>false) (.slice none 0 0) (.nilFunc) 0)) gD ?_;refine iH JL ?_;intro ZM w43 Dc;refine zN 6 ?_;refine dF eQ (nG Dc hu) ?_;rintro _ VW ⟨rfl,aCC,yg⟩;refine ⟨_,rfl,?_⟩;refine zN 7 ?_;refine vv (aj rfl rfl (aC (St.cl 9 yg rfl AV))) ?_;refine zQ ?_;refine bsI yg ?_;intro Rc VP oU;refine dx (news:=[pV ZM 0]) (xs':=[gT b7,gT SV,gT ZM]) 7 oU (wn rfl) rfl rfl rfl rfl rfl rfl (St.lD (xs:=[pV ZM 0]) 0 oU rfl rfl rfl) Tryz.underlying98 Es rfl dQ (bM rfl) lQ oQ rfl ?_;intro A51 c52 w53 aKF aKG l7;refine zN 2 ?_;refine jD 10 l7 kQ ?_ (hs:=by exact acJ);intro w57 D6;refine zN 4 ?_;refine vv (v:=iV 3) fJ ?_;refine zN 2 ?_;refine pY (mK (aH (ay (vv Dk ?_))));refine zN 17 ?_;refine vv (v:= .agg (dI 3 true (.slice none 0 0) 0 (.slice none 0 0) (λ_=>(⟨0,0⟩:Pl)) (λ_=>false) (.slice none 0 0) (.nilFunc) 0)) gD ?_;refine iH D6 ?_;intro b59 w60 Ia;refine zN 6 ?_;refine dF eQ (nG Ia hu) ?_;rintro _ w63 ⟨rfl,aCD,S64⟩;refine ⟨_,rfl,?_⟩;refine zN 7 ?_;refine vv (aj rfl rfl (aC (St.cl 12 S64 rfl AV))) ?_
 refine zQ ?_;refine bsI S64 ?_;intro b65 VL uD;refine dx (news:=[pV b59 0]) (xs':=[gT b7,gT SV,gT ZM,gT b59]) 10 uD (wn rfl) rfl rfl rfl rfl rfl rfl (St.lD (xs:=[pV b59 0]) 0 uD rfl rfl rfl) Tryz.underlying98 Es rfl dQ (bM rfl) lQ oQ rfl ?_;intro A68 c69 Zz aKH aKI lu;refine zN 2 ?_;refine jD 13 lu kQ ?_ (hs:=by exact acJ);intro w74 Ew;refine zN 4 ?_;refine vv (v:=iV 4) fJ ?_;refine zN 2 ?_;refine pY (mK (aH (ay (vv Dk ?_))));refine zN 17 ?_;refine vv (v:= .agg (dI 4 true (.slice none 0 0) 0 (.slice none 0 0) (λ_=>(⟨0,0⟩:Pl)) (λ_=>false) (.slice none 0 0) (.nilFunc) 0)) gD ?_;refine iH Ew ?_;intro b76 w77 GU;refine zN 6 ?_;refine dF eQ (nG GU hu) ?_;rintro _ w80 ⟨rfl,aCE,tV⟩;refine ⟨_,rfl,?_⟩;refine zN 7 ?_;refine vv (aj rfl rfl (aC (St.cl 15 tV rfl AV))) ?_;refine zQ ?_;refine bsI tV ?_;intro b82 w83 FZ;refine dx (news:=[pV b76 0]) (xs':=[gT b7,gT SV,gT ZM,gT b59,gT b76]) 13 FZ (wn rfl) rfl rfl rfl rfl rfl rfl (St.lD (xs:=[pV b76 0]) 0 FZ rfl rfl rfl) Tryz.underlying98 Es rfl dQ (bM rfl) lQ oQ rfl ?_;intro A85 c86 w87 aKJ aKK JN;refine zN 2 ?_;refine jD 16 JN kQ ?_ (hs:=by exact acJ);intro w91 zR;refine zN 4 ?_;refine vv (v:=iV 5) fJ ?_;refine zN 2 ?_;refine pY (mK (aH (ay (vv amj ?_))));refine zN 17 ?_;have DZ:St _ _ _ (_::_::_::_::_::_::_::_::_::_::_::_::_::_::_::_::_::fs):=zR.bD 13 rfl;have FY:=DZ.aP [12,9,6,3,0];have Lu:=FY.nil 138 7;have D5:=Lu.nil 69 14;have Au:=D5.nil 140 23;have D8:=Au.C9 140 23;have S99:=D8.C9 140 23;have sI:=S99.C9 140 23;have wT:=sI.C9 140 23;have tu:=wT.C9 140 23;have qd:=tu.eG [16];have wS:=qd.eG [5];have sJ:=wS.eG [10];have Dx:=sJ.eG [10];have zn:=Dx.eG [7];have vG:=zn.eG [12];have Jh:=vG.eG [12];have qb:=Jh.eG [9];have Dq:=qb.eG [14];have wR:=Dq.eG [14];have mG:=wR.eG [11];have E8:=mG.eG [16];have qc:=E8.eG [16];have uH:=qc.eG [13];have AX:=uH.eG [18];have wP:=AX.eG [18];have oZ:=wP.eG [18];have oV:=oZ.eG [18];have AQ:=oV.eG [18];have Dv:=AQ.eG [19];refine ⟨⟨b4,anf b7 SV ZM b59 b76⟩,rfl,⟨λj=>⟨anf aCA aCB aCC aCD aCE j,none,0,sU,none,0,[],.nilFunc⟩,none,0,[],none,0,none,0,A85,c86,[.bJ 1 A85 5 [gT b7,gT SV,gT ZM,gT b59,gT b76]]⟩,?_,St.flip (gs:=[_,_,_,_,_,_,_,_,_,_,_,_,_,_,_,_,_,_,_,_]) (fs:=fs) Dv⟩;exact ⟨rfl,λx hx=>(by cases hx),λn hn=>⟨rfl,O7,Ro.none_,rfl,λy hy=>(by cases hy),rfl⟩,Ro.bJ (List.mem_singleton.2 rfl),λx hx=>(by cases hx)⟩
end Go.Proofs.YtlfgjcahpppbbaaGreatDoor
