import Derived.Test.YtceeleolddkibaaGreatDoorG07e9e
import Derived.Test.YtceeleolddkibaaGreatDoorG15ffb
import Derived.Test.YtceeleolddkibaaGreatDoorG17dd5
import Derived.Test.YtceeleolddkibaaGreatDoorG2dec9
import Derived.Test.YtceeleolddkibaaGreatDoorGa7170
import Derived.Test.YtceeleolddkibaaGreatDoorGc8d30
import Derived.Test.YtceeleolddkibaaGreatDoorGd514a
set_option linter.all false
set_option maxRecDepth 100000
set_option maxHeartbeats 8000000
namespace Go.Proofs.YtceeleolddkibaaGreatDoor
open List Nat Go.Proofs.Tryz ChangeShapes WideShapes RowKit
def BD{l:List UInt8}{s:Int}(h:dS l s=true):ZU l s=(l,(l.length:Int),0):=aj h
def mI{H:List LX}{P:LX->Prop}:∀u∈H,u∈H\/P u:=λ_ h=>.inl h
def NV{kn kw:Nat}{L:List Nf}{p:cZ}{v:Value}(h:sK kn kw L (some p) v):∃f xs ys,v=.func f xs ys:=by
 match p,h with
 | .serve ..,⟨_,_,_,_,_,_,_,_,_,h,_⟩=>exact⟨_,_,_,h⟩
 | .QL ..,⟨_,_,_,_,_,h,_⟩=>exact⟨_,_,_,h⟩
 | .UK ..,⟨_,_,_,_,_,_,_,h,_⟩=>exact⟨_,_,_,h⟩
 | .gJ ..,⟨_,_,_,_,_,_,_,h,_⟩=>exact⟨_,_,_,h⟩
 | .QE ..,⟨_,_,_,_,h,_⟩=>exact⟨_,_,_,h⟩
def fC.Lf{K:CK}{L L':List Nf}{n q c:Nat}{X:Nd}{z:NX}{A:Option Addr}{dX:BX}(h:fC K L n X z)(M:q<4)(I:∀f∈L,f∈L')(O: .dB 1 A X.data.length (JV X.data)∈L')(Z:EM L dX):
 fC K L' n (X.kN.aF q dX.b) {z with tA:=A,tc:=c,pv:=.nilFunc,bx:=z.bx.set q dX}:=
 ⟨Mi h.Vu M,Ia (λu J=>(h.Xc u J).mono I) (Z.mono I),Ro.dB O,h.ixm,λu J=>(h.ixo u J).mono I,E⟩
def fC.aGT{K:CK}{L N:List Nf}{n c:Nat}{X:Nd}{z:NX}{A:Option Addr}{x:LX}{r:List LX}{v:Value}(h:fC K L n X z)(M:z.ix=x::r)(hv:z.pv=v):fC K (L++N) n (X.box (r.map LX.l)) {z with iA:=A,ic:=c,ix:=r,pv:=v}:=
 ⟨h.Vu,λu J=>(h.Xc u J).mono λ_ I=>bO _ I,h.AX.mono λ_ I=>bO _ I,E,λu J=>(h.ixo u (by rw[M];exact dZ _ J)).mono λ_ I=>bO _ I,sK.mono (by have:=h.nU;rw[hv]at this;exact this) λ_ I=>bO _ I⟩
def agC{K:CK}{B n kn kw:Nat}{w0:World}{m:Cl}{H:List LX}{x:LX}(hn:n<5)(I:K.nb n=kn)(J:K.wb=kw)(Z:Uk B w0)(M:m.PI.length<=1000000000)(O:m.bH.length<=1000000000000)(hq:x.l.q<4)(hv:∀q,q<4->aA ((m.au n).bs q)=0)(hxe:x.l.JU.length<=2000)(hkd:x.l.kd=0\/x.l.kd=2\/x.l.kd=3\/x.l.kd=4\/x.l.kd=6):
 ∃F:FuncId,(∀args w,(callFunc F args).run tP w=.ok (.enter F args) w)/\hMf kw x.l.kd=some (.func (.func F) #[pV kw 0] #[])/\(-9223372036854775808<=x.l.kd/\x.l.kd<=9223372036854775807)/\ ∀w fs,Wd K B w0 w fs m (x::H)->Calls tP F #[pV kw 0,pV kn 0,.agg (LX.row x)] w (λe w'=>e=.returned (.tuple #[])/\Wd K B w0 w' fs (m.QB n x.l) H):=by
 rcases hkd with h|h|h|h|h<;>unfold Cl.QB<;>simp only[h]
 ·exact⟨58,eQ,E,by decide,λw fs HW=>YM hn I J Z M O HW hq hv⟩
 ·exact⟨59,eQ,E,by decide,λw fs HW=>aeO hn I J Z M O HW hq hv⟩
 ·exact⟨60,eQ,E,by decide,λw fs HW=>aeE hn I J Z M O HW hq hv⟩
 ·exact⟨61,eQ,E,by decide,λw fs HW=>abI hn I J Z M O HW hq hv hxe⟩
 exact⟨62,eQ,E,by decide,λw fs HW=>aeu hn I J Z M O HW hq hv⟩
def abW{K:CK}{B n kn kw:Nat}{w0 w:World}{fs:List Nf}{m:Cl}{H:List LX}(hn:n<5)(Z:K.nb n=kn)(jw:K.wb=kw)(hu:Uk B w0)(hB1:m.PI.length+(m.au n).Pq.length<=900000000)(hB2:m.bH.length+(m.au n).Pq.length<=900000000000)(htn:(m.au n).turn<=1000000000000)(HW:Wd K B w0 w fs m H)(hv:∀q,q<4->aA ((m.au n).bs q)=0)(hok:∀l∈(m.au n).Pq,l.ok)(WM:∀p,(m.au n).PL=some p->p.fit/\dS (m.au n).data (m.au n).Qr=true):
 Calls tP 27 #[pV kw 0,pV kn 0] w (λe w'=>e=.returned (.tuple #[])/\Wd K B w0 w' fs (m.step n) H):=by
 obtain⟨R,G,S0⟩:=HW.open hn;have hfl:R.fx.length=m.PI.length:=by rw[<-G.PI,gK]
 have NG:=G.jO n hn;obtain⟨X,hX⟩:∃X,m.au n=X:=⟨_,E⟩;obtain⟨z,hz⟩:∃z,R.nx n=z:=⟨_,E⟩;rw[hX,hz]at S0 NG;have O:∀f∈R.L,f∈iM K R m fs n:=λf h=>aL _ (aL _ h);obtain⟨rr,hrr⟩:∃r,iM K R m fs n=r:=⟨_,E⟩;rw[hrr]at S0 O;obtain⟨pv0,ayK⟩:∃v,z.pv=v:=⟨_,E⟩;have S:St B w0 w (cN kn n X z pv0 (cF kw R m rr)):=by rw[<-ayK];subst Z;subst jw;exact S0
 clear S0;have hlen:=(S.own 1 E).1;rw[jF (sz:=6) (λ_=>E)]at hlen;refine iW 79 func27 ?_;refine cw [0,1] ?_;refine zN 7 ?_
 cases hb1:(X.up)
 ·refine zN 7 ?_;rw[oN (by rw[hX];assumption)];exact⟨E,HW⟩
 refine zN 8 ?_;have hpn:=NG.nU;change sK (K.nb n) K.wb _ _ _ at hpn;rw[Z,jw,ayK]at hpn
 rcases hp:X.PL with _|p
 ·rw[hp]at hpn;have hpf:pv0=.nilFunc:=hpn;subst hpf;refine zN 5 ?_;refine vv (v:=.bool false) (cO E E E NH) ?_;refine zN 7 ?_;refine fV (X:=Cl) (λxv=>[(0,pV kw 0),(1,pV kn 0)]) (λxv wr=>(Wd K B w0 wr fs xv H)/\(m.more n=xv.more n)/\(xv.PI.length+(xv.au n).Pq.length<=900000000)/\(xv.bH.length+(xv.au n).Pq.length<=900000000000)/\(∀q,q<4->aA ((xv.au n).bs q)=0)/\(∀l∈(xv.au n).Pq,l.ok)/\((xv.au n).turn=(m.au n).turn)/\St B w0 wr []) (λxv=>(xv.au n).Pq.length) (m) ?_ ?_ ?_
  ·exact⟨HW,E,hB1,hB2,hv,hok,E,Wd.KZ (gs:=[]) HW⟩
  ·exact Aq
  rintro mm w2 ⟨hi4,hi5,hi6,hi7,hi8,hi9,aak,S3⟩
  try dsimp only at hi4 hi5 hi6 hi7 hi8 hi9 aak S3
  refine bK (l':=[(0,pV kw 0),(1,pV kn 0)]) Aq ?_;obtain⟨R2,G2,S0⟩:=hi4.open hn;have NG2:=G2.jO n hn;obtain⟨X2,hX2⟩:∃X,mm.au n=X:=⟨_,E⟩;obtain⟨z2,hz2⟩:∃z,R2.nx n=z:=⟨_,E⟩;rw[hX2,hz2]at S0 NG2;have hL2:∀f∈R2.L,f∈iM K R2 mm fs n:=λf h=>aL _ (aL _ h);obtain⟨rr2,ayL⟩:∃r,iM K R2 mm fs n=r:=⟨_,E⟩;rw[ayL]at S0 hL2;obtain⟨pv2,hpv2⟩:∃v,z2.pv=v:=⟨_,E⟩;obtain⟨iA2,aGU⟩:∃v,z2.iA=v:=⟨_,E⟩;obtain⟨ixv,alM⟩:∃v,z2.ix=v:=⟨_,E⟩;have SV:=NG2.ixm;have aal:=NG2.nU;change sK (K.nb n) K.wb _ _ _ at aal;rw[Z,jw,hpv2]at aal;rw[alM]at SV;have S1:St B w0 w2 (nF kn n X2.up z2.tA X2.data z2.tc X2.Qr z2.bb X2.QC X2.QA iA2 ixv z2.ic pv2 X2.turn z2.bx (cF kw R2 mm rr2)):=by rw[<-hpv2,<-aGU,<-alM];subst Z;subst jw;exact S0
  clear S0;rw[hX2]at hi6 hi7 hi8 hi9 aak
  rcases hp2:X2.PL with _|p2
  ·rw[hp2]at aal;have asD:pv2=.nilFunc:=aal;subst asD;refine zN 8 ?_;by_cases h11:0< (ixv.length:Int)
   ·refine zN 6 ?_;refine vg (v:=.bool true) (cO E E E Xf) ?_;refine zN 8 ?_;obtain⟨x,SX,hxx⟩:=exists_cons_of_length_pos (by omega:0<ixv.length);subst hxx;refine zN 5 ?_;obtain⟨rb,ro,hra,_,hrc⟩:=(St.azr 2 S1 E).2 iQ;subst hra;refine vv (mY 0) ?_;refine vv (v:=.agg (LX.row x)) (ay E E (eZ (cs:=LX.cells x) (λj u hu=>by rw[jT];exact hrc (0*23+j) u (dw (enc:=LX.cells) (sz:=23) (k:=0) (λ_=>E) E hu)))) ?_;refine iL S1 ahf ?_;intro b12 Hq oJ;refine stA 0 oJ kQ ?_ (h1:=H8 _);intro OI rX;refine zN 9 ?_;refine vv (v:=.slice (if z2.ic=1 then(some ⟨rb,ro,none⟩:Option Addr)else(some ⟨rb,ro,none⟩:Option Addr).map (·.add (1*23))) ((x::SX).length-1) (z2.ic-1)) (lU E E (kI E) qD qD (aoQ 1 Tryz.underlying81 kQ iQ _)) ?_;refine zN 2 ?_;refine kU (row':=eP n X2.up (.slice z2.tA X2.data.length z2.tc) X2.Qr (.slice (aD z2.bb 0) 4 4) X2.QC X2.QA (.slice (if z2.ic=1 then(some ⟨rb,ro,none⟩:Option Addr)else(some ⟨rb,ro,none⟩:Option Addr).map (·.add (1*23))) ((x::SX).length-1) (z2.ic-1)) (.nilFunc) X2.turn) 1 rX kQ ?_;intro Qh uD;refine zN 2 ?_;have xK:=uD.fJ [7,7,7,7,7,7,7];have sU:=xK.as3 2 1 E iQ;obtain⟨hq,hxe,hkd⟩:=hi9 x.l (by rw[<-SV];exact iT ..);have ayM:=Wd.eU (fs:=[.Pj b12 (LX.row x) 113]++fs) (X':=(X2.box (SX.map LX.l))) (z':={z2 with iA:=(if z2.ic=1 then(some ⟨rb,ro,none⟩:Option Addr)else(some ⟨rb,ro,none⟩:Option Addr).map (·.add (1*23))),ic:=z2.ic-1,ix:=SX,pv:=.nilFunc}) (m':=mm.put n (X2.box (SX.map LX.l))) (H':=x::H) (Ls:=[]) (fA:=R2.fA) (fc:=R2.fc) (fx:=R2.fx) (sA:=R2.sA) (sc:=R2.sc) (tA:=R2.tA) (tc:=R2.tc) (rr:=.Pj b12 (LX.row x) 113::rr2) Z jw (by rw[<-ayL];rfl) G2 hn sU (NG2.aGT alM hpv2) (λu hu=>.inl hu) E G2.PI.symm (λu hu=>(iR.1 hu).elim (λe=>.inr (e▸(by rw[bI];exact NG2.ixo x (by rw[alM];exact iT ..)))) .inl);subst hX2;have lY:=Wd.KZ (gs:=[.Pj b12 (LX.row x) 113]) ayM;have heh:=kJ (m:=mm.put n ((mm.au n).box (SX.map LX.l))) (n:=n) (l:=x.l) hq;obtain⟨F,hfe,hfv,hfz,hfc⟩:=agC (K:=K) (B:=B) (w0:=w0) (m:=mm.put n ((mm.au n).box (SX.map LX.l))) (H:=H) (x:=x) hn Z jw hu (by show mm.PI.length<=_;omega) (by show mm.bH.length<=_;omega) hq (by rw[bL];exact hi8) hxe hkd;have rJ:=lY.drew;refine aO 8 rJ [] ?_;refine aP 5 ?_;refine bG 1 ?_;refine lN 1 E eQ (acZ kw _) ?_;rintro _ Za ⟨b29,rfl,T32⟩;refine⟨_,E,?_⟩;have ayN:=(Wd.drew ayM).ext T32 E;have tN:=Wd.KZ (gs:=[.loc b29 (hMk kw),.Pj b12 (LX.row x) 113]) ayN;refine eH ?_;refine bG 4 ?_;refine ko (i:=4) E E (v:=.func (.func F) #[pV kw 0] #[]) (wn E) E E (lV 0 tN E E E E underlying3 Tryz.underlying135 (Tryz.zeroValue134 _) hfz hfv) ?_;refine eH ?_;refine bG 7 ?_;refine pQ 7 E hfe (hfc _ _ ayN) ?_;rintro _ w34 ⟨rfl,ayO⟩;refine⟨_,E,?_⟩;have wu:=Wd.KZ (gs:=[.loc b29 (hMk kw),.Pj b12 (LX.row x) 113]) ayO;have ayP:=Wd.less (gs:=[.loc b29 (hMk kw),.Pj b12 (LX.row x) 113]) ayO;refine aP 2 ?_;refine zQ ?_;refine bQ (((mm.put n ((mm.au n).box (SX.map LX.l))).QB n x.l)) ?_ Aq (by(try dsimp only);rw[heh.jC,bL,<-SV];simp[Nd.box]);exact⟨ayP,(hi5.trans (Kl hp2 SV.symm hq)),(by(try dsimp only);rw[heh.jC,bL];have:=heh.PI;rw[show((mm.au n).box (SX.map LX.l)).Pq.length=SX.length from gK ..];rw[<-SV]at hi6;simp only[length_map,length_cons]at hi6;have e9:(mm.put n ((mm.au n).box (SX.map LX.l))).PI=mm.PI:=rfl;rw[e9]at this;omega),(by(try dsimp only);rw[heh.jC,bL];have:=heh.bH;rw[show((mm.au n).box (SX.map LX.l)).Pq.length=SX.length from gK ..];rw[<-SV]at hi7;simp only[length_map,length_cons]at hi7;have e9:(mm.put n ((mm.au n).box (SX.map LX.l))).bH=mm.bH:=rfl;rw[e9]at this;omega),(heh.nE (by rw[bL];exact hi8)),(by(try dsimp only);rw[heh.jC,bL];exact λl hl=>hi9 l (by rw[<-SV];exact dZ _ hl)),(by(try dsimp only);rw[heh.Jw,bL];exact aak),(Wd.KZ (gs:=[]) ayP)⟩
   refine zN 22 ?_;refine vv (v:=.bool true) (cO E E E Xf) ?_;refine zN 6 ?_;refine eB eQ (abJ hn Z jw hu Y Y hi4 (by rw[hX2,aak];exact htn) (by rw[hX2];exact hi8)) ?_;rintro _ w98 ⟨rfl,aGV⟩;refine⟨_,E,?_⟩;refine zQ ?_;refine dD (l':=[]) trivial (ru ?_);have J:X.up=true:=by assumption
   have hmo:m.more n=mm:=hi5.trans (NJ (by rw[hX2,<-SV,qY.1 (by omega:ixv.length=0)];rfl));rw[jX (by rw[hX];exact J) (by rw[hX];exact hp),hmo,aj (by rw[hX2,hp2])];exact⟨E,aGV⟩
  rw[hp2]at aal;obtain⟨f2,xs2,ys2,asD⟩:=NV aal;subst asD;refine zN 8 ?_;by_cases aO8:0< (ixv.length:Int)
  ·refine zN 6 ?_;refine vg (v:=.bool false) (cO E E E NI) ?_;refine zN 15 ?_;refine vv (v:=.bool false) (cO E E E NI) ?_;refine zN 5 ?_;have J:X.up=true:=by assumption
   have hmo:m.more n=mm:=hi5.trans (EN (by rw[hX2,hp2];simp));rw[jX (by rw[hX];exact J) (by rw[hX];exact hp),hmo,ah (by rw[hX2,hp2];simp)];exact⟨E,hi4⟩
  refine zN 22 ?_;refine vv (v:=.bool false) (cO E E E NI) ?_;refine zN 5 ?_;have J:X.up=true:=by assumption
  have hmo:m.more n=mm:=hi5.trans (EN (by rw[hX2,hp2];simp));rw[jX (by rw[hX];exact J) (by rw[hX];exact hp),hmo,ah (by rw[hX2,hp2];simp)];exact⟨E,hi4⟩
 obtain⟨hft,htm⟩:=WM _ (hX▸hp);rw[hX]at htm
 rcases p with⟨q,JU,op,num,a⟩|⟨q,b⟩|⟨q,b,last⟩|⟨q,b,at_⟩|⟨q,b⟩
 ·rw[hp]at hpn;obtain⟨b1,b2,b3,b4,b5,b6,b7,M,x,hpf,hm1,he,I,hm2,Kk,Qn,Rh,hm6,hop,aGW,hm7⟩:=hpn;subst hpf;subst he;subst hop;subst aGW;have hq:q<4:=hft.1;obtain⟨y,hy,hyb,tQ⟩:=NG.at_ hq;refine zN 5 ?_;refine vv (v:=.bool true) (cO E E E zW) ?_;refine zN 9 ?_;refine vv (ay E E (eZ (cs:=[.slice z.tA X.data.length z.tc,D X.Qr]) (St.rg 0 S E (vI)))) ?_;have JL:=λw h=>D5 (rP z.tA X.data.length z.tc X.data X.Qr w h);rw[BD htm]at JL;refine eB eQ (JL _ (NG.AX.rd S (Qw 7 E O))) ?_;rintro _ aGX ⟨aam,alN,rfl,aGY⟩;refine⟨_,E,?_⟩;have Cb:=S.ext aGY E;refine zN 5 ?_;refine kU (row':=eP n X.up (.slice aam X.data.length alN) ((X.data.length:Nat):Int) (.slice (aD z.bb 0) 4 4) X.QC X.QA (.slice z.iA z.ix.length z.ic) (.func (.func 82) #[] #[je b1,je b2,je b3,je b4,je b5]) X.turn) 1 Cb kQ ?_;intro afs IJ;refine zN 16 ?_;refine kU (row':=eP n X.up (.slice aam X.data.length alN) ((X.data.length:Nat):Int) (.slice (aD z.bb 0) 4 4) X.QC X.QA (.slice z.iA z.ix.length z.ic) (.nilFunc) X.turn) 1 IJ kQ ?_;intro arK Ma;refine zN 5 ?_;have uP:=Ma.fJ [7,7,7,7,7,7,7];refine zn eQ (aix hn hq hy uP (Qw 1 E O _ hm1) (Qw 1 E O _ hm2) (Qw 1 E O _ Kk) (Qw 1 E O _ Qn) (Qw 1 E O _ Rh) (Qw 1 E O _ hm6) (Qw 1 E O _ hm7) hu Y Y) ?_;rintro _ afn ⟨rfl,hd1,hd2⟩;refine⟨_,E,?_⟩;refine zQ ?_;refine dD (l':=[]) trivial (iY (rT (jq (fB (rs:=[]) (vs:=[]) E trivial ?_))));have J:X.up=true:=by assumption
  by_cases hs:QK y.b
  ·obtain⟨sA',sc',sv',M0,M4,Sg,h1,h2,S9⟩:=hd1 hs;subst h1;subst h2;rw[kH hX J hp hyb.symm hs];exact⟨E,Wd.eU (X':=X.kN.aF q {y.b with JU:=M.b.JU}) (z':={z with tA:=aam,tc:=alN,pv:=.nilFunc,bx:=z.bx.set q (⟨{y.b with JU:=M.b.JU},M.A,M.c⟩:BX)}) (Ls:=[.dB 1 aam X.data.length (JV X.data)]) (fA:=M0) (fc:=M4) (fx:=_) (sA:=sA') (sc:=sc') (tA:=R.tA) (tc:=R.tc) Z jw hrr G hn S9 (NG.Lf hq (dX:=(⟨{y.b with JU:=M.b.JU},M.A,M.c⟩:BX)) (λf hf=>bO _ hf) (aL _ (aI.2 E)) I) (rE (jW E)) E (by rw[gX,G.PI];rfl) mI⟩
  obtain⟨M0,M4,Sg,h2,S9⟩:=hd2 hs;subst h2;rw[aek hX J hp hyb.symm hs];exact⟨E,Wd.eU (X':=X.kN.aF q {y.b with JU:=M.b.JU}) (z':={z with tA:=aam,tc:=alN,pv:=.nilFunc,bx:=z.bx.set q (⟨{y.b with JU:=M.b.JU},M.A,M.c⟩:BX)}) (Ls:=[.dB 1 aam X.data.length (JV X.data)]) (fA:=M0) (fc:=M4) (fx:=_) (sA:=R.sA) (sc:=R.sc) (tA:=R.tA) (tc:=R.tc) Z jw hrr G hn S9 (NG.Lf hq (dX:=(⟨{y.b with JU:=M.b.JU},M.A,M.c⟩:BX)) (λf hf=>bO _ hf) (aL _ (aI.2 E)) I) (rE (jW E)) E (by rw[gX,G.PI];rfl) mI⟩
 ·rw[hp]at hpn;obtain⟨b1,b2,b3,b4,M,hpf,hm1,he,I,hm2,Kk,Qn⟩:=hpn;subst hpf;subst he;have hq:q<4:=hft;obtain⟨y,hy,hyb,tQ⟩:=NG.at_ hq;refine zN 5 ?_;refine vv (v:=.bool true) (cO E E E zW) ?_;refine zN 9 ?_;refine vv (ay E E (eZ (cs:=[.slice z.tA X.data.length z.tc,D X.Qr]) (St.rg 0 S E (vI)))) ?_;have JL:=λw h=>D5 (rP z.tA X.data.length z.tc X.data X.Qr w h);rw[BD htm]at JL;refine eB eQ (JL _ (NG.AX.rd S (Qw 7 E O))) ?_;rintro _ arD ⟨alO,asE,rfl,aGZ⟩;refine⟨_,E,?_⟩;have tF:=S.ext aGZ E;refine zN 5 ?_;refine kU (row':=eP n X.up (.slice alO X.data.length asE) ((X.data.length:Nat):Int) (.slice (aD z.bb 0) 4 4) X.QC X.QA (.slice z.iA z.ix.length z.ic) (.func (.func 85) #[] #[je b1,je b2,je b3,je b4]) X.turn) 1 tF kQ ?_;intro afo zu;refine zN 16 ?_;refine kU (row':=eP n X.up (.slice alO X.data.length asE) ((X.data.length:Nat):Int) (.slice (aD z.bb 0) 4 4) X.QC X.QA (.slice z.iA z.ix.length z.ic) (.nilFunc) X.turn) 1 zu kQ ?_;intro awz vR;refine zN 5 ?_;have Ki:=vR.fJ [7,7,7,7,7,7,7];refine zn eQ (aiy hn hq hy Ki (Qw 1 E O _ hm1) (Qw 1 E O _ hm2) (Qw 1 E O _ Kk) (Qw 1 E O _ Qn) Y) ?_;rintro _ arx ⟨rfl,M0,M4,Sg,hf',S9⟩;refine⟨_,E,?_⟩;refine zQ ?_;refine dD (l':=[]) trivial (iY (rT (jq (fB (rs:=[]) (vs:=[]) E trivial ?_))));have J:X.up=true:=by assumption
  subst hf';rw[qb hX J hp];exact⟨E,Wd.eU (X':=X.kN.aF q M.b) (z':={z with tA:=alO,tc:=asE,pv:=.nilFunc,bx:=z.bx.set q M}) (Ls:=[.dB 1 alO X.data.length (JV X.data)]) (fA:=M0) (fc:=M4) (fx:=_) (sA:=R.sA) (sc:=R.sc) (tA:=R.tA) (tc:=R.tc) Z jw hrr G hn S9 (NG.Lf hq (dX:=M) (λf hf=>bO _ hf) (aL _ (aI.2 E)) I) (rE (jW E)) E (by rw[gX,G.PI];rfl) mI⟩
 ·rw[hp]at hpn;obtain⟨b1,b2,b3,b4,b5,M,x,hpf,hm1,he,I,hm2,Kk,Qn,hla,Rh⟩:=hpn;subst hpf;subst he;subst hla;have hq:q<4:=hft;obtain⟨y,hy,hyb,tQ⟩:=NG.at_ hq;refine zN 5 ?_;refine vv (v:=.bool true) (cO E E E zW) ?_;refine zN 9 ?_;refine vv (ay E E (eZ (cs:=[.slice z.tA X.data.length z.tc,D X.Qr]) (St.rg 0 S E (vI)))) ?_;have JL:=λw h=>D5 (rP z.tA X.data.length z.tc X.data X.Qr w h);rw[BD htm]at JL;refine eB eQ (JL _ (NG.AX.rd S (Qw 7 E O))) ?_;rintro _ arY ⟨aan,c124,rfl,aG0⟩;refine⟨_,E,?_⟩;have AJ:=S.ext aG0 E;refine zN 5 ?_;refine kU (row':=eP n X.up (.slice aan X.data.length c124) ((X.data.length:Nat):Int) (.slice (aD z.bb 0) 4 4) X.QC X.QA (.slice z.iA z.ix.length z.ic) (.func (.func 90) #[] #[je b1,je b2,je b3,je b4,je b5]) X.turn) 1 AJ kQ ?_;intro aD8 AL;refine zN 16 ?_;refine kU (row':=eP n X.up (.slice aan X.data.length c124) ((X.data.length:Nat):Int) (.slice (aD z.bb 0) 4 4) X.QC X.QA (.slice z.iA z.ix.length z.ic) (.nilFunc) X.turn) 1 AL kQ ?_;intro arM BQ;refine zN 5 ?_;have BN:=BQ.fJ [7,7,7,7,7,7,7];refine zn eQ (abH hn hq hy BN (Qw 1 E O _ hm1) (Qw 1 E O _ hm2) (Qw 1 E O _ Kk) (Qw 1 E O _ Qn) (Qw 1 E O _ Rh) Y Y) ?_;rintro _ ae2 ⟨rfl,hd1,hd2⟩;refine⟨_,E,?_⟩;refine zQ ?_;refine dD (l':=[]) trivial (iY (rT (jq (fB (rs:=[]) (vs:=[]) E trivial ?_))));have J:X.up=true:=by assumption
  cases hla:x.l.last
  ·obtain⟨M0,M4,Sg,h2,S9⟩:=hd2 hla;subst h2;rw[vK hX J (by rw[hp,hla])];exact⟨E,Wd.eU (X':=X.kN.aF q M.b) (z':={z with tA:=aan,tc:=c124,pv:=.nilFunc,bx:=z.bx.set q M}) (Ls:=[.dB 1 aan X.data.length (JV X.data)]) (fA:=M0) (fc:=M4) (fx:=_) (sA:=R.sA) (sc:=R.sc) (tA:=R.tA) (tc:=R.tc) Z jw hrr G hn S9 (NG.Lf hq (dX:=M) (λf hf=>bO _ hf) (aL _ (aI.2 E)) I) (rE (jW E)) E (by rw[gX,G.PI];rfl) mI⟩
  obtain⟨sA',sc',sv',h1,S9⟩:=hd1 hla;subst h1;rw[lK hX J (by rw[hp,hla])];exact⟨E,Wd.eU (X':={ (X.kN.aF q M.b)with QA:=Qv X.QA q false}) (z':={z with tA:=aan,tc:=c124,pv:=.nilFunc,bx:=z.bx.set q M}) (Ls:=[.dB 1 aan X.data.length (JV X.data)]) (fA:=R.fA) (fc:=R.fc) (fx:=R.fx) (sA:=sA') (sc:=sc') (tA:=R.tA) (tc:=R.tc) Z jw hrr G hn S9 (fC.Uz (NG.Lf hq (dX:=M) (λf hf=>bO _ hf) (aL _ (aI.2 E)) I)) (λu hu=>.inl hu) E G.PI.symm mI⟩
 ·rw[hp]at hpn;obtain⟨b1,b2,b3,b4,b5,M,x,hpf,hm1,he,I,hm2,Kk,Qn,Rh,hla⟩:=hpn;subst hpf;subst he;subst hla;have hq:q<4:=hft.1;obtain⟨y,hy,hyb,tQ⟩:=NG.at_ hq;refine zN 5 ?_;refine vv (v:=.bool true) (cO E E E zW) ?_;refine zN 9 ?_;refine vv (ay E E (eZ (cs:=[.slice z.tA X.data.length z.tc,D X.Qr]) (St.rg 0 S E (vI)))) ?_;have JL:=λw h=>D5 (rP z.tA X.data.length z.tc X.data X.Qr w h);rw[BD htm]at JL;refine eB eQ (JL _ (NG.AX.rd S (Qw 7 E O))) ?_;rintro _ afh ⟨alP,asF,rfl,asi⟩;refine⟨_,E,?_⟩;have EH:=S.ext asi E;refine zN 5 ?_;refine kU (row':=eP n X.up (.slice alP X.data.length asF) ((X.data.length:Nat):Int) (.slice (aD z.bb 0) 4 4) X.QC X.QA (.slice z.iA z.ix.length z.ic) (.func (.func 88) #[] #[je b1,je b2,je b3,je b4,je b5]) X.turn) 1 EH kQ ?_;intro aDw J7;refine zN 16 ?_;refine kU (row':=eP n X.up (.slice alP X.data.length asF) ((X.data.length:Nat):Int) (.slice (aD z.bb 0) 4 4) X.QC X.QA (.slice z.iA z.ix.length z.ic) (.nilFunc) X.turn) 1 J7 kQ ?_;intro ax2 LV;refine zN 5 ?_;have ZQ:=LV.fJ [7,7,7,7,7,7,7];have aO9:=mg (kL hft.2);have aso:M.b.JU.length*48<=reachBytes:=by unfold reachBytes;omega
  have aga:=zV hft.2;refine zn eQ (YK (L:=R.L) hn hq hy ZQ (Qw 1 E O _ hm1) (Qw 1 E O _ hm2) (Qw 1 E O _ Kk) (Qw 1 E O _ Qn) (Qw 1 E O _ Rh) I (Qw 1 E O) aso aga Y) ?_;rintro _ alm ⟨rfl,M0,M4,Sg,N,hf',hx',S9⟩;refine⟨_,E,?_⟩;refine zQ ?_;refine dD (l':=[]) trivial (iY (rT (jq (fB (rs:=[]) (vs:=[]) E trivial ?_))));have J:X.up=true:=by assumption
  rw[sw hX J hp];exact⟨E,Wd.fin (X':=X.kN.aF q M.b) (z':={z with tA:=alP,tc:=asF,pv:=.nilFunc,bx:=z.bx.set q M}) (N:=N) (Ls:=[.dB 1 alP X.data.length (JV X.data)]) (fA:=M0) (fc:=M4) (fx:=Sg) (sA:=R.sA) (sc:=R.sc) (tA:=R.tA) (tc:=R.tc) Z jw hrr G hn S9 (NG.Lf hq (dX:=M) (λf hf=>bO _ hf) (aL _ (aL _ (aI.2 E))) I) (λu hu=>(hx' u hu).imp id λh=>h.mono λf hf=>aL _ (bO _ hf)) E (by rw[hf',G.PI]) mI⟩
 rw[hp]at hpn;obtain⟨b1,b2,b3,M,hpf,hm1,he,I,hm2,Kk⟩:=hpn;subst hpf;subst he;have hq:q<4:=hft;obtain⟨y,hy,hyb,tQ⟩:=NG.at_ hq;refine zN 5 ?_;refine vv (v:=.bool true) (cO E E E zW) ?_;refine zN 9 ?_;refine vv (ay E E (eZ (cs:=[.slice z.tA X.data.length z.tc,D X.Qr]) (St.rg 0 S E (vI)))) ?_;have JL:=λw h=>D5 (rP z.tA X.data.length z.tc X.data X.Qr w h);rw[BD htm]at JL;refine eB eQ (JL _ (NG.AX.rd S (Qw 7 E O))) ?_;rintro _ awY ⟨VU,c146,rfl,aG1⟩;refine⟨_,E,?_⟩;have Rv:=S.ext aG1 E;refine zN 5 ?_;refine kU (row':=eP n X.up (.slice VU X.data.length c146) ((X.data.length:Nat):Int) (.slice (aD z.bb 0) 4 4) X.QC X.QA (.slice z.iA z.ix.length z.ic) (.func (.func 92) #[] #[je b1,je b2,je b3]) X.turn) 1 Rv kQ ?_;intro awJ Rx;refine zN 16 ?_;refine kU (row':=eP n X.up (.slice VU X.data.length c146) ((X.data.length:Nat):Int) (.slice (aD z.bb 0) 4 4) X.QC X.QA (.slice z.iA z.ix.length z.ic) (.nilFunc) X.turn) 1 Rx kQ ?_;intro aEO afD;refine zN 5 ?_;have PG:=afD.fJ [7,7,7,7,7,7,7];refine zn eQ (aen hn hq hy PG (Qw 1 E O _ hm1) (Qw 1 E O _ hm2) (Qw 1 E O _ Kk)) ?_;rintro _ aFN ⟨rfl,S9⟩;refine⟨_,E,?_⟩;refine zQ ?_;refine dD (l':=[]) trivial (iY (rT (jq (fB (rs:=[]) (vs:=[]) E trivial ?_))));have J:X.up=true:=by assumption
 rw[nW hX J hp];exact⟨E,Wd.eU (X':=X.kN.aF q M.b) (z':={z with tA:=VU,tc:=c146,pv:=.nilFunc,bx:=z.bx.set q M}) (Ls:=[.dB 1 VU X.data.length (JV X.data)]) (fA:=R.fA) (fc:=R.fc) (fx:=R.fx) (sA:=R.sA) (sc:=R.sc) (tA:=R.tA) (tc:=R.tc) Z jw hrr G hn S9 (NG.Lf hq (dX:=M) (λf hf=>bO _ hf) (aL _ (aI.2 E)) I) (λu hu=>.inl hu) E G.PI.symm mI⟩
def qh{L i:Nat}(h:i<L):(range L).drop i=i::(range L).drop (i+1):=by
 rw[yM (by rw[Ib];exact h),getElem_range]
def mJ{P:Program}{w:World}{t e:TypeId}{A:Option Addr}{b off n c s:Nat}{i:Int}{kd:IntKind}(k:Nat)(I:A=some ⟨b,off,none⟩)(J:P.underlying t=some (.slice e))(M:(P.info? e).map (·.size)=some s)(h:i=k)(O:k<n):
 (Instr.indexAt t (.slice A n c) (.int kd i)).run P w=.ok (pV b (off+k*s)) w:=by
 subst I;exact jD k J M h O
section
variable {L fs:List Nf}{B n s:Nat}{w0 w:World}{A:Option Addr}{xs:List Value}{b o k:Nat}{u:Value}
def rd_some{z:Nat}(h:Rd w z s A n xs)(hn:0<n):∃b o,A=some ⟨b,o,none⟩:=by
 obtain⟨b,o,e,_⟩:=h.2 hn;exact⟨b,o,e⟩
def Ie(h:Ro L s A n xs)(S:St B w0 w fs)(I:∀f∈L,f∈fs)(hn:0<n):∃b o,A=some ⟨b,o,none⟩:=rd_some (h.rd S I) hn
def MC{z:Nat}(h:Rd w z s A n xs)(M:A=some ⟨b,o,none⟩)(I:xs[k]? =some u):w.cell? ⟨b,o+k,none⟩=some u:=by
 have hn:0<n:=by
  rcases wD n with J|J
  ·have:=h.1;rw[J,GN]at this;rw[qY.1 this]at I;simp at I
  exact J
 obtain⟨b',Z,e,_,O⟩:=h.2 hn;rw[M]at e
 cases e;exact O k u I
def BF(h:Ro L s A n xs)(I:A=some ⟨b,o,none⟩)(S:St B w0 w fs)(J:∀f∈L,f∈fs)(M:xs[k]? =some u):w.cell? ⟨b,o+k,none⟩=some u:=MC (h.rd S J) I M
end
section
variable {m mm:Cl}{n q F0:Nat}{e:Ev}{a:kg}{u:Int}{b:bF}{K:CK}{L L':List Nf}{c:Nat}{X:Nd}{z:NX}{v:Value}{FD:UE×Int}{BR:bF×Int}{A:Option Addr}{dX:BX}{d:List UInt8}{tg:Int}{PW:Pl×Int}{V:Nat->bF}{k:Nat}{s:Int}{d':List UInt8}{bs ws:List BX}{md:Cl}{y x:BX}{H:List LX}{p:cZ}{m':Cl}{l:bY}
def SY(h:mm={m with bH:=mm.bH,Qx:=mm.Qx}):mm.UR n q e a u={m with bH:=(mm.UR n q e a u).bH,Qx:=(mm.UR n q e a u).Qx}:=by
 have h1:=bM Cl.au h;have I:=bM Cl.off h;have J:=bM Cl.PI h;have M:=bM Cl.bZ h;have O:=bM Cl.calls h;unfold Cl.UR;simp only[Cl.mk.injEq];exact⟨h1,I,J,trivial,trivial,M,O⟩
def YT(I:(m.au n).bs q=b)(h:¬(m.Qx n q).1=b.ep):m.recover n q={m with bH:=m.bH++[⟨n,q,b.ep,bC,iP,-1⟩],Qx:=kG m.Qx n q (b.ep,(b.JU.length:Int))}:=by
 subst I;unfold Cl.recover;rw[aj h];rfl
def YU(I:(m.au n).bs q=b)(h:(m.Qx n q).1=b.ep)(J:(m.Qx n q).2=(F0:Int)):m.recover n q=m.recovered n q b.JU (aK b.JU).2.1 ((range b.JU.length).drop F0):=by
 subst I;unfold Cl.recover;rw[ah (λe=>e h),J,dW]
def acB{K:CK}{B n kn kw:Nat}{w0 w:World}{fs:List Nf}{m:Cl}{H:List LX}{q:Nat}(hn:n<5)(hkn:K.nb n=kn)(jw:K.wb=kw)(hu:Uk B w0)(hB1:m.PI.length<=1000000000)(hB2:m.bH.length<=1000000000000)(hq:q<4)(HW:Wd K B w0 w fs m H)(hv:∀q,q<4->aA ((m.au n).bs q)=0)(hsh:0<=(m.Qx n q).2):
 Calls tP 49 #[pV kw 0,pV kn 0,D ((q:Nat):Int)] w (λe w'=>e=.returned (.tuple #[])/\Wd K B w0 w' fs (m.recover n q) H):=by
 obtain⟨R,G,S0⟩:=HW.open hn;have hfl:R.fx.length=m.PI.length:=by rw[<-G.PI,gK]
 have NG:=G.jO n hn;obtain⟨X,hX⟩:∃X,m.au n=X:=⟨_,E⟩;obtain⟨z,hz⟩:∃z,R.nx n=z:=⟨_,E⟩;rw[hX,hz]at S0 NG;have hL:∀f∈R.L,f∈iM K R m fs n:=λf h=>aL _ (aL _ h);obtain⟨rr,hrr⟩:∃r,iM K R m fs n=r:=⟨_,E⟩;rw[hrr]at S0 hL;have S:St B w0 w (cN kn n X z z.pv (cF kw R m rr)):=by subst hkn;subst jw;exact S0
 clear S0 HW;have hlen:=(S.own 1 E).1;rw[jF (sz:=6) (λ_=>E)]at hlen;rw[hX]at hv;obtain⟨y,hy,hyb,tQ⟩:=NG.at_ hq;have hln:=mg (kL (hyb▸hv _ hq));have Cg:y.b.JU.length*48<=reachBytes:=by unfold reachBytes;omega
 have PE:=zV (hyb▸hv _ hq);obtain⟨F0,hF0⟩:∃F0:Nat,(m.Qx n q).2=(F0:Int):=⟨_,(Int.toNat_of_nonneg hsh).symm⟩;have hle:y.b.JU.length<=1152921504606846976:=Y;have hal:(aK y.b.JU).2.1.length=y.b.JU.length:=afG (kL (hyb▸hv _ hq));refine iW 68 func49 ?_;refine cw [0,1,2] ?_;refine zN 7 ?_;refine vv (mY q) ?_;refine vv (ay E E (eZ (cs:=BX.cells y) (Rd.Al (St.Vj 1 S E) (λ_ _ h=>dw (enc:=BX.cells) (sz:=6) (λ_=>E) hy h)))) ?_;refine iL S iI ?_;intro b1 w2 S3;refine sa 0 S3 kQ ?_;intro w4 S5;refine zN 3 ?_;have S6:=S5.drew;refine gT 13 12 S6 [] ?_;iterate 8 refine jf ?_
 refine gk (v:=pV kw (10+n*8)) 8 E S6 (λ_ _=>(aQ E E E (fu n underlying85 kQ E hn))) ?_;refine gk (v:=pV kw (10+n*8+q*2)) 9 E S6 (λ_ _=>(aQ E E E (fu q Tryz.underlying84 kQ E hq))) ?_;refine gk (v:=.agg #[D ((m.Qx n q).1),D ((m.Qx n q).2)]) 10 E S6 (λ_ aG2=>(ay E E (eZ (cs:=[D ((m.Qx n q).1),D ((m.Qx n q).2)]) (St.rg 4 aG2 E (aAo hn hq))))) ?_;refine gF (m:=1) (r:=11) kQ ?_;refine oV (i:=11) E E (V:=λb=>pV b 0) (row:= #[D 0,D 0]) (t:=83) S6 (wn E) E E (jJ E (Tryz.zeroValue83 _) E) ?_;intro b18 J4 sU;refine jf ?_;refine gy kQ E E E ?_;refine sa 0 sU kQ ?_;intro Jm lY;refine zQ ?_;refine jY ?_;refine zN 8 ?_;by_cases h23:(m.Qx n q).1=y.b.ep
 ·refine zN 10 ?_;refine eB eQ (adR y.A y.c y.b.JU _ (tQ.1.rd lY (Qw 9 E hL)) hle) ?_;rintro _ Rt ⟨A24,c25,rfl,T28⟩;refine⟨_,E,?_⟩;have xq:=lY.ext T28 E;refine zN 10 ?_;refine vv (v:=D (F0:Int)) (EU hF0 (ay E E (aV (St.cl 1 xq E E)))) ?_;refine zN 4 ?_;have xL:=xq.fJ [9,9,9,9,9,9,9];refine fV (X:=Cl×(Option Addr)×Nat×Nat) (λxv=>[(0,pV kw 0),(1,pV kn 0),(2,D ((q:Nat):Int)),(6,pV b1 0),(8,.slice A24 ((aK y.b.JU).2.1.length) c25),(10,D (xv.2.2.2:Int))]) (λxv wr=>(m.recovered n q y.b.JU (aK y.b.JU).2.1 ((range y.b.JU.length).drop F0)=xv.1.recovered n q y.b.JU (aK y.b.JU).2.1 ((range y.b.JU.length).drop xv.2.2.2))/\(xv.1={m with bH:=xv.1.bH,Qx:=xv.1.Qx})/\(xv.1.bH.length+(y.b.JU.length-xv.2.2.2)<=1000000002001)/\St B w0 wr (cN kn n X z z.pv (wF kw (.slice R.nA 5 R.nc) m.off R.fA R.fx R.fc xv.1.Qx xv.2.1 xv.1.bH xv.2.2.1 R.tA m.bZ R.tc m.calls ((.dB 4 A24 ((aK y.b.JU).2.1.length) (((aK y.b.JU).2.1).flatMap kg.cells))::(.Pj b18 #[D ((m.Qx n q).1),D ((m.Qx n q).2)] 83)::(.Pj b1 (bR y.b y.A y.c) 58)::rr)))) (λxv=>y.b.JU.length-xv.2.2.2) (m,R.sA,R.sc,F0) ?_ ?_ ?_
  ·exact⟨E,E,uQ,xL⟩
  ·exact vD
  rintro⟨mm,A9,c9,I⟩ Za ⟨LU,M,V9,tN⟩
  try dsimp only at LU M V9 tN
  refine bK (l':=[(0,pV kw 0),(1,pV kn 0),(2,D ((q:Nat):Int)),(6,pV b1 0),(8,.slice A24 ((aK y.b.JU).2.1.length) c25),(10,D (I:Int))]) vD (aX (aX (aH (vm ?_))));refine zN 3 ?_;by_cases h35:(I:Int)< (y.b.JU.length:Int)
  ·refine zN 8 ?_;obtain⟨e,he⟩:∃e,y.b.JU[I]? =some e:=⟨_,dJ Y⟩;obtain⟨a,ha⟩:∃a,(aK y.b.JU).2.1[I]? =some a:=⟨_,dJ Y⟩;have hee:y.b.JU.getD I aU=e:=by rw[ac8,he];rfl
   have haa:(aK y.b.JU).2.1.getD I iP=a:=by rw[ac8,ha];rfl
   obtain⟨rb,ro,hra⟩:=Ie tQ.1 tN (Qw 10 E hL) Y;obtain⟨sb,so,hsa⟩:=rd_some (St.dB 7 tN E) Y;have O:=tN.drew;refine aO 13 O [5,3] ?_;refine aP 6 ?_;refine ak (v:=pV rb (ro+I*6)) 6 E (O.sZ [5,3]) (λ_ _=>(aQ E E E (mJ I hra underlying56 kQ Y Y))) ?_;refine aP 2 ?_;refine ak (v:=pV sb (so+I*4)) 10 E (O.sZ [5,3]) (λ_ _=>(aQ E E E (mJ I hsa Tryz.underlying155 kQ Y Y))) ?_;refine jv (n:=2) (r:=7) (s:=11) kQ ?_ ?_
   ·refine ko (i:=7) E E (v:=.agg #[D ((y.b.JU.getD I aU).kind),D ((y.b.JU.getD I aU).Pv),D ((y.b.JU.getD I aU).id),D ((y.b.JU.getD I aU).body),D ((y.b.JU.getD I aU).Qs),D ((y.b.JU.getD I aU).Qz)]) (wn E) E E (ay E E (eZ (cs:=Ev.cells (y.b.JU.getD I aU)) (λj u hu=>by rw[jT];rw[hee]at hu;exact BF tQ.1 hra O (Qw 10 E hL) (dw (enc:=Ev.cells) (sz:=6) (k:=I) (λ_=>E) he hu)))) ?_;refine eH ?_;refine bG 11 ?_;refine ko (i:=11) E E (v:=.agg #[D (((aK y.b.JU).2.1.getD I iP).code),D (((aK y.b.JU).2.1.getD I iP).iB),D (((aK y.b.JU).2.1.getD I iP).Qz),D (((aK y.b.JU).2.1.getD I iP).body)]) (wn E) E E (ay E E (eZ (cs:=kg.cells ((aK y.b.JU).2.1.getD I iP)) (λj u hu=>by rw[jT];rw[haa]at hu;exact MC (St.dB 7 O E) hsa (dw (enc:=kg.cells) (sz:=4) (k:=I) (λ_=>E) ha hu)))) ?_;refine eH ?_;refine bG 12 ?_;refine lN 12 E eQ (qp hn hq hy (y.b.JU.getD I aU) ((aK y.b.JU).2.1.getD I iP) (-1) O (by have:=V9;omega)) ?_;rintro _ w51 ⟨rfl,Qm,c48,asb,alJ,rH⟩;refine⟨_,E,?_⟩;refine aP 2 ?_;refine zN 4 ?_;refine vv (v:=D ((I+1:Nat):Int)) jB ?_;refine zN 2 ?_;obtain⟨Z,J⟩:∃k,k=mm.UR n q (y.b.JU.getD I aU) ((aK y.b.JU).2.1.getD I iP) (-1):=⟨_,E⟩;have hmb:(mm.au n).bs q=y.b:=by rw[bM Cl.au M,hX];exact hyb.symm
    have t1:Z.bH=asb:=by rw[alJ,J];show mm.bH++[_]=_;rw[hmb]
    have t2:Z.Qx=kG mm.Qx n q (y.b.ep,(y.b.JU.length:Int)):=by rw[J];show kG _ _ _ _=_;rw[hmb]
    have t3:Z.bH.length=mm.bH.length+1:=by rw[t1,alJ,aY];rfl
    rw[<-t1,<-t2]at rH;refine bQ (Z,Qm,c48,I+1) ?_ vD (by first|omega|(dsimp only;omega));exact⟨(by dsimp only;rw[LU,qh Y,Cl.recovered,<-J]),(by dsimp only;rw[J];exact SY M),uQ,rH⟩
   refine ko (i:=11) E E (v:=.agg #[D (((aK y.b.JU).2.1.getD I iP).code),D (((aK y.b.JU).2.1.getD I iP).iB),D (((aK y.b.JU).2.1.getD I iP).Qz),D (((aK y.b.JU).2.1.getD I iP).body)]) (wn E) E E (ay E E (eZ (cs:=kg.cells ((aK y.b.JU).2.1.getD I iP)) (λj u hu=>by rw[jT];rw[haa]at hu;exact MC (St.dB 7 O E) hsa (dw (enc:=kg.cells) (sz:=4) (k:=I) (λ_=>E) ha hu)))) ?_;refine eH ?_;refine bG 7 ?_;refine ko (i:=7) E E (v:=.agg #[D ((y.b.JU.getD I aU).kind),D ((y.b.JU.getD I aU).Pv),D ((y.b.JU.getD I aU).id),D ((y.b.JU.getD I aU).body),D ((y.b.JU.getD I aU).Qs),D ((y.b.JU.getD I aU).Qz)]) (wn E) E E (ay E E (eZ (cs:=Ev.cells (y.b.JU.getD I aU)) (λj u hu=>by rw[jT];rw[hee]at hu;exact BF tQ.1 hra O (Qw 10 E hL) (dw (enc:=Ev.cells) (sz:=6) (k:=I) (λ_=>E) he hu)))) ?_;refine eH ?_;refine bG 12 ?_;refine lN 12 E eQ (qp hn hq hy (y.b.JU.getD I aU) ((aK y.b.JU).2.1.getD I iP) (-1) O (by have:=V9;omega)) ?_;rintro _ w57 ⟨rfl,A53,c54,aG3,ayR,Gd⟩;refine⟨_,E,?_⟩;refine aP 2 ?_;refine zN 4 ?_;refine vv (v:=D ((I+1:Nat):Int)) jB ?_;refine zN 2 ?_;obtain⟨Z,J⟩:∃k,k=mm.UR n q (y.b.JU.getD I aU) ((aK y.b.JU).2.1.getD I iP) (-1):=⟨_,E⟩;have hmb:(mm.au n).bs q=y.b:=by rw[bM Cl.au M,hX];exact hyb.symm
   have t1:Z.bH=aG3:=by rw[ayR,J];show mm.bH++[_]=_;rw[hmb]
   have t2:Z.Qx=kG mm.Qx n q (y.b.ep,(y.b.JU.length:Int)):=by rw[J];show kG _ _ _ _=_;rw[hmb]
   have t3:Z.bH.length=mm.bH.length+1:=by rw[t1,ayR,aY];rfl
   rw[<-t1,<-t2]at Gd;refine bQ (Z,A53,c54,I+1) ?_ vD (by first|omega|(dsimp only;omega));exact⟨(by dsimp only;rw[LU,qh Y,Cl.recovered,<-J]),(by dsimp only;rw[J];exact SY M),uQ,Gd⟩
  refine zN 9 ?_;have Ct:m.recover n q={m with bH:=mm.bH,Qx:=mm.Qx}:=by rw[YU (b:=y.b) (by rw[hX];exact hyb.symm) (by first|assumption|omega) hF0,LU,sS (by rw[Ib];omega),Cl.recovered];exact M
  rw[Ct];exact⟨E,Wd.eU (X':=X) (z':=z) (Ls:=[.dB 4 A24 ((aK y.b.JU).2.1.length) (((aK y.b.JU).2.1).flatMap kg.cells),.Pj b18 #[D ((m.Qx n q).1),D ((m.Qx n q).2)] 83,.Pj b1 (bR y.b y.A y.c) 58]) (fA:=R.fA) (fc:=R.fc) (fx:=R.fx) (sA:=A9) (sc:=c9) (tA:=R.tA) (tc:=R.tc) hkn jw hrr G hn tN NG.more (λu hu=>.inl hu) (aJ hX).symm G.PI.symm mI⟩
 refine zN 9 ?_;refine vv (v:=.agg #[D 4,D 0,D 0,D 0,D 0,D 0]) iE ?_;refine zQ ?_;have Ez:=lY.fJ [8,8,8,8,8,8,8];refine eB eQ (qp hn hq hy bC iP (-1) Ez Y) ?_;rintro _ w64 ⟨rfl,A60,c61,aPa,aG4,Hu⟩;refine⟨_,E,?_⟩;refine zQ ?_;refine dD (l':=[]) trivial (iY (rT (jq (fB (rs:=[]) (vs:=[]) E trivial ?_))));subst aG4;have Ct:m.recover n q={m with bH:=m.bH++[⟨n,q,y.b.ep,bC,iP,-1⟩],Qx:=kG m.Qx n q (y.b.ep,(y.b.JU.length:Int))}:=YT (b:=y.b) (by rw[hX];exact hyb.symm) ‹_›;rw[Ct];exact⟨E,Wd.eU (X':=X) (z':=z) (Ls:=[.Pj b18 #[D ((m.Qx n q).1),D ((m.Qx n q).2)] 83,.Pj b1 (bR y.b y.A y.c) 58]) (fA:=R.fA) (fc:=R.fc) (fx:=R.fx) (sA:=A60) (sc:=c61) (tA:=R.tA) (tc:=R.tc) hkn jw hrr G hn Hu NG.more (λu hu=>.inl hu) (aJ hX).symm G.PI.symm mI⟩
def fC.pv_(h:fC K L n X z)(hv:z.pv=v):fC K L n X {z with pv:=v}:=by
 subst hv;exact h
def fC.aA2(h:fC K L n X z)(M:X.PL=none)(O:q<4)(I:∀f∈L,f∈L')(Z: .dB 1 A d.length (JV d)∈L')(hY:EM L' dX):
 fC K L' n {X with data:=d,Qr:=(d.length:Int),bs:=Qv X.bs q dX.b} {z with tA:=A,tc:=c,pv:=.nilFunc,bx:=z.bx.set q dX}:=
 ⟨Mi h.Vu O,Ia (λu J=>(h.Xc u J).mono I) hY,Ro.dB Z,h.ixm,λu J=>(h.ixo u J).mono I,by show sK _ _ _ X.PL _;rw[M];rfl⟩
def agD(h:(m.au n).up=false):m.make n q=m:=by unfold Cl.make;rw[aj (.inl h)]
def agE(h:(m.au n).PL.isSome=true):m.make n q=m:=by unfold Cl.make;rw[aj (.inr (.inl h))]
def akD(I:vF m.off q n=FD)(h:¬FD.2=0):m.make n q=m:=by unfold Cl.make;rw[aj (.inr (.inr (by rw[I];exact h)))]
def akE(I:jR ((m.au n).bs q) 1=BR)(h:¬BR.2=0):m.make n q=m:=by
 unfold Cl.make
 split
 ·rfl
 rw[I,aj h]
def agF(h:m.au n=X)(I:jR (X.bs q) 1=BR)(hw:gD X.data X.Qr [gW 1 q BR.1.ep 0 aU]=none):m.make n q=m:=by
 subst h;subst I;unfold Cl.make Nd.write
 split
 ·rfl
 split
 ·rfl
 rw[hw];rfl
def akF(h:m.au n=X)(I:X.up=true)(J:X.PL=none)(M:vF m.off q n=FD)(O:FD.2=0)(Z:jR (X.bs q) 1=BR)(hb:BR.2=0)(hw:gD X.data X.Qr [gW 1 q BR.1.ep 0 aU]=some d):
 m.make n q={m.put n {X with data:=d,Qr:=(d.length:Int),bs:=Qv X.bs q BR.1}with off:=FD.1,Qx:=kG m.Qx n q (1,0)}:=by
 subst h;subst Z;subst M;unfold Cl.make Nd.write;rw[I,J,ah (by simp[O]),ah (λe=>e hb),hw];rfl
def abX{K:CK}{B n kn kw:Nat}{w0 w:World}{fs:List Nf}{m:Cl}{H:List LX}{q:Nat}(hn:n<5)(hkn:K.nb n=kn)(jw:K.wb=kw)(hu:Uk B w0)(hB1:m.PI.length<=1000000000)(hB2:m.bH.length<=1000000000000)(hq:q<4)(HW:Wd K B w0 w fs m H)(hv:∀q,q<4->aA ((m.au n).bs q)=0)(hmay:∀rs d,gD (m.au n).data (m.au n).Qr rs=some d->dS d (m.au n).Qr=true):
 Calls tP 25 #[pV kw 0,pV kn 0,D ((q:Nat):Int)] w (λe w'=>e=.returned (.tuple #[])/\Wd K B w0 w' fs (m.make n q) H):=by
 obtain⟨R,G,S0⟩:=HW.open hn;have hfl:R.fx.length=m.PI.length:=by rw[<-G.PI,gK]
 have NG:=G.jO n hn;obtain⟨X,hX⟩:∃X,m.au n=X:=⟨_,E⟩;obtain⟨z,hz⟩:∃z,R.nx n=z:=⟨_,E⟩;rw[hX,hz]at S0 NG;have hL:∀f∈R.L,f∈iM K R m fs n:=λf h=>aL _ (aL _ h);obtain⟨rr,hrr⟩:∃r,iM K R m fs n=r:=⟨_,E⟩;rw[hrr]at S0 hL;obtain⟨pv0,M⟩:∃v,z.pv=v:=⟨_,E⟩;have S:St B w0 w (cN kn n X z pv0 (cF kw R m rr)):=by rw[<-M];subst hkn;subst jw;exact S0
 clear S0 HW;have hlen:=(S.own 1 E).1;rw[jF (sz:=6) (λ_=>E)]at hlen;rw[hX]at hv;obtain⟨y,hy,hyb,tQ⟩:=NG.at_ hq;have hln:=mg (kL (hyb▸hv _ hq));have Cg:y.b.JU.length*48<=reachBytes:=by unfold reachBytes;omega
 have PE:=zV (hyb▸hv _ hq);refine iW 93 func25 ?_;refine bK (l':=[(0,pV kw 0),(1,pV kn 0),(2,D ((q:Nat):Int))]) Jh ?_;obtain⟨FD,Nc⟩:∃r,vF m.off q n=r:=⟨_,E⟩;have HF:=λw h=>Yx m.off q n w h;rw[Nc]at HF;refine pW (X:=Nat) (λxv=>[(0,pV kw 0),(1,pV kn 0),(2,D ((q:Nat):Int)),(6,pV xv 0),(7,D FD.2)]) (λxv wr=>St B w0 wr ((.Pj xv (((FD.1).cells).toArray) 32)::(cN kn n X z pv0 (cF kw R m rr)))) ?_ ?_
 ·have S1:=S.drew;refine Lr (C:=λw'=>St B w0 w' (cN kn n X z pv0 (cF kw R m rr))) (n:=16) (listed:= #[false,false,false,false,false,false,false,false,false,false,false,false,false,false,false,false]) mixed E E ?_;refine aP 3 ?_;refine ak (v:=.agg ((m.off.cells).toArray)) 3 E S1 (λ_ Sx5=>(ay E E (eZ (cs:=(m.off.cells)) (St.rg 3 Sx5 E (AV))))) ?_;refine aP 5 ?_;refine jv (n:=6) (r:=9) (s:=13) kQ ?_ ?_
  ·refine lN 9 E eQ (HF _ (Uk.nw hu S1)) ?_;rintro _ KM ⟨rfl,aG5⟩;refine⟨_,E,?_⟩;have rA:=S1.on aG5;refine aP 4 ?_;refine bG 13 ?_;refine nQ 13 E rA alf ?_;intro b17 Qi xK;refine eH ?_;refine bG 14 ?_;refine snA 14 E 0 xK kQ ?_ (h1:=yV _);intro w20 yj;refine aP 3 ?_;refine eO b17 ?_ Dc;exact yj
  refine nQ 13 E S1 alf ?_;intro Dj RD nC;refine eH ?_;refine bG 9 ?_;refine lN 9 E eQ (HF _ (Uk.nw hu nC)) ?_;rintro _ Rt ⟨rfl,aly⟩;refine⟨_,E,?_⟩;have xq:=nC.on aly;refine aP 4 ?_;refine bG 14 ?_;refine snA 14 E 0 xq kQ ?_ (h1:=yV _);intro w32 yS;refine aP 3 ?_;refine eO Dj ?_ Dc;exact yS
 rintro b35 w36 O
 try dsimp only at O
 refine bK (l':=[(0,pV kw 0),(1,pV kn 0),(2,D ((q:Nat):Int)),(6,pV b35 0),(7,D FD.2)]) Dc (aX (aX ?_));have hpn:=NG.nU;change sK (K.nb n) K.wb _ _ _ at hpn;rw[hkn,jw,M]at hpn
 rcases hup:X.up with _|_
 ·refine zN 4 ?_;refine vv (v:=.bool false) (SQ hup (ay E E (aV (St.cl 1 O E E)))) ?_;refine zN 18 ?_;have Dg:=O.fJ [7,7,7,7,7,7,7];have Ct:m.make n q=m:=agD (by rw[hX];exact hup);rw[Ct];exact⟨E,Wd.eU (X':=X) (z':={z with pv:=pv0}) (Ls:=[.Pj b35 (((FD.1).cells).toArray) 32]) (fA:=R.fA) (fc:=R.fc) (fx:=R.fx) (sA:=R.sA) (sc:=R.sc) (tA:=R.tA) (tc:=R.tc) hkn jw hrr G hn Dg (NG.more.pv_ M) (λu hu=>.inl hu) (aJ hX).symm G.PI.symm mI⟩
 rcases hp:X.PL with _|p
 ·rw[hp]at hpn;have hpf:pv0=.nilFunc:=hpn;subst hpf;by_cases hF:FD.2=0
  ·refine zN 4 ?_;refine vv (v:=.bool true) (SQ hup (ay E E (aV (St.cl 1 O E E)))) ?_;refine zN 6 ?_;refine vg (v:=.bool false) (cO E E E NH) ?_;refine zN 11 ?_;obtain⟨BR,tT⟩:∃r,jR y.b 1=r:=⟨_,E⟩;have HP:=λw h=>OJ y.b.GR y.b.ep y.b.fr y.b.tg y.b.rd y.A y.c y.b.JU 1 w h Cg;rw[show jR ⟨y.b.GR,y.b.ep,y.b.fr,y.b.tg,y.b.rd,y.b.JU⟩ 1=BR from tT]at HP;refine zN 6 ?_;refine vv (mY q) ?_;refine vv (ay E E (eZ (cs:=BX.cells y) (Rd.Al (St.Vj 2 O E) (λ_ _ h=>dw (enc:=BX.cells) (sz:=6) (λ_=>E) hy h)))) ?_;refine eB eQ (HP _ (tQ.1.rd O (Qw 8 E hL))) ?_;rintro _ WG ⟨I,Z,aA3,rfl,T44⟩;refine⟨_,E,?_⟩;have vU:=O.ext T44 E;refine zN 3 ?_;refine iL vU iI ?_;intro b45 w46 Cu;refine sa 0 Cu kQ ?_;intro Zf yT;refine zN 5 ?_;have AA:=yT.fJ [9,9,9,9,9,9,9];by_cases hB:BR.2=0
   ·rcases agG:gD X.data X.Qr [gW 1 q BR.1.ep 0 aU]with _|J
    ·refine zN 7 ?_;refine BI eQ (kD 1 q ⟨BR.1,I,Z⟩ _) ?_;rintro _ w53 ⟨rfl,asq⟩;refine⟨_,E,?_⟩;have xP:=AA.on asq;refine mE (V:=λb=>.slice (aD b 0) 1 1) (row:= #[D 1,D ((q:Nat):Int),D BR.1.ep,D 0,D 0,D 0,D 0,D 0,D 0,D 0]) (t:=132) xP (wg E E E E) E E (bq (vs:=[(0,.agg #[D 1,D ((q:Nat):Int),D BR.1.ep,D 0,D 0,D 0,D 0,D 0,D 0,D 0])]) E Aq kQ) ?_;intro b56 w57 Gd;have Ez:=Gd.fJ [7,7,7,7,7,7,7];refine BI eQ (JA (rs:=[gW 1 q BR.1.ep 0 aU]) agG (Ro.Pj (bS.2 ⟨0,E⟩) E E) NG.AX (by exact Qw 4 E hL) (fK E) Ez) ?_;rintro _ w64 ⟨rfl,Hu⟩;refine⟨_,E,?_⟩;refine zN 8 ?_;have Ct:m.make n q=m:=agF hX (by rw[<-hyb];exact tT) agG;rw[Ct];exact⟨E,Wd.eU (X':=X) (z':={z with pv:=.nilFunc}) (Ls:=[.Pj b56 #[D 1,D ((q:Nat):Int),D BR.1.ep,D 0,D 0,D 0,D 0,D 0,D 0,D 0] 132,.Pj b45 (bR BR.1 I Z) 58,.dB 6 I BR.1.JU.length ((BR.1.JU).flatMap Ev.cells),.Pj b35 (((FD.1).cells).toArray) 32]) (fA:=R.fA) (fc:=R.fc) (fx:=R.fx) (sA:=R.sA) (sc:=R.sc) (tA:=R.tA) (tc:=R.tc) hkn jw hrr G hn Hu (NG.more.pv_ M) (λu hu=>.inl hu) (aJ hX).symm G.PI.symm mI⟩
    refine zN 7 ?_;refine BI eQ (kD 1 q ⟨BR.1,I,Z⟩ _) ?_;rintro _ Zc ⟨rfl,aG6⟩;refine⟨_,E,?_⟩;have xI:=AA.on aG6;refine mE (V:=λb=>.slice (aD b 0) 1 1) (row:= #[D 1,D ((q:Nat):Int),D BR.1.ep,D 0,D 0,D 0,D 0,D 0,D 0,D 0]) (t:=132) xI (wg E E E E) E E (bq (vs:=[(0,.agg #[D 1,D ((q:Nat):Int),D BR.1.ep,D 0,D 0,D 0,D 0,D 0,D 0,D 0])]) E Aq kQ) ?_;intro b69 w70 wo;have Jo:=wo.fJ [7,7,7,7,7,7,7];refine BI eQ (JB (rs:=[gW 1 q BR.1.ep 0 aU]) agG (Ro.Pj (bS.2 ⟨0,E⟩) E E) NG.AX (by exact Qw 4 E hL) (fK E) Jo) ?_;rintro _ w77 ⟨A73,c74,N75,rfl,aA4,MV⟩;refine⟨_,E,?_⟩;refine zN 13 ?_;refine vv (ay E E (eZ (cs:=[.slice A73 J.length c74,D X.Qr]) (St.rg 0 MV E (vI)))) ?_;rw[hX]at hmay;have JL:=λw h=>D5 (rP A73 J.length c74 J X.Qr w h);rw[BD (hmay _ _ agG)]at JL;refine eB eQ (JL _ (aA4.rd MV (Qw 11 E (aac hL)))) ?_;rintro _ w81 ⟨A79,c80,rfl,T83⟩;refine⟨_,E,?_⟩;have S82:=MV.ext T83 E;refine zN 5 ?_;refine kU (row':=eP n X.up (.slice A79 J.length c80) (J.length:Int) (.slice (aD z.bb 0) 4 4) X.QC X.QA (.slice z.iA z.ix.length z.ic) (.nilFunc) X.turn) 1 S82 kQ ?_;intro w84 Hw;refine zN 3 ?_;have CQ:=Hw.drew;refine gT 8 6 CQ [] ?_;iterate 6 refine jf ?_
    refine gy kQ E E E ?_;refine vv (mY q) ?_;refine mZ (xs':=(z.bx.set q (⟨BR.1,I,Z⟩:BX)).flatMap BX.cells) 2 CQ (wn E) E E E E E E zP E (dh E) (by omega) (by rw[fq];exact uj (enc:=BX.cells) (sz:=6) (λ_=>E) (⟨BR.1,I,Z⟩:BX) _ _ (by omega)) ?_;intro w93 KN;have hy95:(z.bx.set q (⟨BR.1,I,Z⟩:BX))[q]? =some (⟨BR.1,I,Z⟩:BX):=qV Y;refine zQ ?_;refine jY ?_;refine zN 7 ?_;refine kU 4 KN kQ ?_ (h1:=yV _) (hs:=by exact ar9);intro w96 Gb;refine zN 2 ?_;have Gg:=Gb.drew;refine aO 12 Gg [4] ?_;refine aP 6 ?_;refine ak (v:=.agg #[D 1,D 0]) 6 E (St.del 4 Gg) (λ_ _=>iE) ?_;refine aP 2 ?_;refine ak (v:=pV kw (10+n*8)) 9 E (St.del 4 Gg) (λ_ _=>(aQ E E E (fu n underlying85 kQ E hn))) ?_;refine ak (v:=pV kw (10+n*8+q*2)) 10 E (St.del 4 Gg) (λ_ _=>(aQ E E E (fu q Tryz.underlying84 kQ E hq))) ?_;refine bG 11 ?_;refine xC (i:=11) E E (cs:= #[D 1,D 0]) (row':=nG (.slice R.nA 5 R.nc) (FD.1) (.slice R.fA R.fx.length R.fc) (kG m.Qx n q (1,0)) (.slice R.sA m.bH.length R.sc) (.slice R.tA m.bZ.length R.tc) m.calls) (fs':=(_::_::_::_::(bW kw (.slice R.nA 5 R.nc) FD.1 R.fA R.fx R.fc (kG m.Qx n q (1,0)) R.sA m.bH R.sc R.tA m.bZ R.tc m.calls)::_::_::_::_::_::_::_::(rr++N75))) 4 Gg (wn E) E E E E E E Y5 E (dh E) (by rw[aip];omega) (aqv hn hq (a:=1) (b:=0)) E ?_;intro aDS aff;refine aP 2 ?_;refine dD (l':=[]) trivial (ru ?_);have EI:=aff.fJ [7,7,7,7,7,7,7];rw[akF hX hup hp Nc hF (by rw[<-hyb];exact tT) hB agG];exact⟨E,Wd.fin (X':={X with data:=J,Qr:=(J.length:Int),bs:=Qv X.bs q BR.1}) (z':={z with tA:=A79,tc:=c80,pv:=.nilFunc,bx:=z.bx.set q (⟨BR.1,I,Z⟩:BX)}) (N:=N75) (Ls:=[.dB 1 A79 J.length (JV J),.Pj b69 #[D 1,D ((q:Nat):Int),D BR.1.ep,D 0,D 0,D 0,D 0,D 0,D 0,D 0] 132,.Pj b45 (bR BR.1 I Z) 58,.dB 6 I BR.1.JU.length ((BR.1.JU).flatMap Ev.cells),.Pj b35 (((FD.1).cells).toArray) 32]) (fA:=R.fA) (fc:=R.fc) (fx:=R.fx) (sA:=R.sA) (sc:=R.sc) (tA:=R.tA) (tc:=R.tc) hkn jw hrr G hn EI (fC.aA2 (dX:=(⟨BR.1,I,Z⟩:BX)) NG hp hq (λf hf=>bO _ hf) (vJ (bS.2 ⟨0,E⟩)) ⟨Ro.dB (vJ (bS.2 ⟨3,E⟩)),aA3⟩) (λu hu=>.inl hu) E G.PI.symm mI⟩
   refine zN 18 ?_;have Ct:m.make n q=m:=akE (by rw[hX,<-hyb];exact tT) hB;rw[Ct];exact⟨E,Wd.eU (X':=X) (z':={z with pv:=.nilFunc}) (Ls:=[.Pj b45 (bR BR.1 I Z) 58,.dB 6 I BR.1.JU.length ((BR.1.JU).flatMap Ev.cells),.Pj b35 (((FD.1).cells).toArray) 32]) (fA:=R.fA) (fc:=R.fc) (fx:=R.fx) (sA:=R.sA) (sc:=R.sc) (tA:=R.tA) (tc:=R.tc) hkn jw hrr G hn AA (NG.more.pv_ M) (λu hu=>.inl hu) (aJ hX).symm G.PI.symm mI⟩
  refine zN 4 ?_;refine vv (v:=.bool true) (SQ hup (ay E E (aV (St.cl 1 O E E)))) ?_;refine zN 6 ?_;refine vg (v:=.bool false) (cO E E E NH) ?_;refine zN 11 ?_;have yH:=O.fJ [7,7,7,7,7,7,7];have Ct:m.make n q=m:=akD Nc hF;rw[Ct];exact⟨E,Wd.eU (X':=X) (z':={z with pv:=.nilFunc}) (Ls:=[.Pj b35 (((FD.1).cells).toArray) 32]) (fA:=R.fA) (fc:=R.fc) (fx:=R.fx) (sA:=R.sA) (sc:=R.sc) (tA:=R.tA) (tc:=R.tc) hkn jw hrr G hn yH (NG.more.pv_ M) (λu hu=>.inl hu) (aJ hX).symm G.PI.symm mI⟩
 rw[hp]at hpn;obtain⟨f2,xs2,ys2,hpf⟩:=NV hpn;subst hpf;refine zN 4 ?_;refine vv (v:=.bool true) (SQ hup (ay E E (aV (St.cl 1 O E E)))) ?_;refine zN 6 ?_;refine vg (v:=.bool true) (cO E E E zW) ?_;refine zN 11 ?_;have EA:=O.fJ [7,7,7,7,7,7,7];have Ct:m.make n q=m:=agE (by rw[hX,hp];rfl);rw[Ct];exact⟨E,Wd.eU (X':=X) (z':={z with pv:=.func f2 xs2 ys2}) (Ls:=[.Pj b35 (((FD.1).cells).toArray) 32]) (fA:=R.fA) (fc:=R.fc) (fx:=R.fx) (sA:=R.sA) (sc:=R.sc) (tA:=R.tA) (tc:=R.tc) hkn jw hrr G hn EA (NG.more.pv_ M) (λu hu=>.inl hu) (aJ hX).symm G.PI.symm mI⟩
def fC.aqT(h:fC K L n X z)(I:q<4)(J:EM L dX):fC K L n (X.aF q dX.b) {z with bx:=z.bx.set q dX}:=⟨Mi h.Vu I,Ia h.Xc J,h.AX,h.ixm,h.ixo,h.nU⟩
def Zx(I:aN m.off q=PW)(h:¬PW.2=0\/PW.1.node=tg\/(m.au PW.1.node.toNat).up=false):m.move q tg=m:=by
 subst I;unfold Cl.move;rw[aj h]
def aiM(I:aN m.off q=PW)(hn:PW.1.node=(n:Int))(J:m.au n=X)(M:wh (X.bs q) tg=BR)(h:¬(BR.2=0/\BR.1.ep=PW.1.Pf)):m.move q tg=m:=by
 subst I;subst J;subst M;unfold Cl.move
 split
 ·rfl
 rw[hn,dW,ah h]
def avI(I:aN m.off q=PW)(h1:PW.2=0)(J:¬PW.1.node=tg)(hn:PW.1.node=(n:Int))(M:m.au n=X)(O:X.up=true)(Z:wh (X.bs q) tg=BR)(h3:BR.2=0)(h4:BR.1.ep=PW.1.Pf):m.move q tg=m.put n (X.aF q BR.1):=by
 subst I;subst M;subst Z;unfold Cl.move;have e:(aN m.off q).1.node.toNat=n:=by rw[hn,dW]
 rw[e,O,ah (by rintro(h|h|h);exact h h1;exact J h;cases h),aj ⟨h3,h4⟩];rfl
def abY{K:CK}{B n kn kw:Nat}{w0 w:World}{fs:List Nf}{m:Cl}{H:List LX}{q:Nat}{tg:Int}{PW:Pl×Int}(hn:n<5)(J:K.nb n=kn)(O:K.wb=kw)(hu:Uk B w0)(hB1:m.PI.length<=1000000000)(hB2:m.bH.length<=1000000000000)(hq:q<4)(HW:Wd K B w0 w fs m H)(hv:∀q,q<4->aA ((m.au n).bs q)=0)(Z:aN m.off q=PW)(hwn:PW.2=0->PW.1.node=(n:Int)):
 Calls prog 32 #[pV kw 0,D ((q:Nat):Int),D tg] w (λe w'=>e=.returned (.tuple #[])/\Wd K B w0 w' fs (m.move q tg) H):=by
 obtain⟨R,G,S0⟩:=HW.open hn;have hfl:R.fx.length=m.PI.length:=by rw[<-G.PI,gK]
 have NG:=G.jO n hn;obtain⟨X,hX⟩:∃X,m.au n=X:=⟨_,E⟩;obtain⟨z,hz⟩:∃z,R.nx n=z:=⟨_,E⟩;rw[hX,hz]at S0 NG;have hL:∀f∈R.L,f∈iM K R m fs n:=λf h=>aL _ (aL _ h);obtain⟨rr,hrr⟩:∃r,iM K R m fs n=r:=⟨_,E⟩;rw[hrr]at S0 hL;have S:St B w0 w ((bN kn n X.up z.tA X.data z.tc X.Qr z.bb X.QC X.QA z.iA z.ix z.ic z.pv X.turn)::(oB z.bb z.bx)::(fL z.iA z.ix z.ic)::(bW kw (.slice R.nA 5 R.nc) m.off R.fA R.fx R.fc m.Qx R.sA m.bH R.sc R.tA m.bZ R.tc m.calls)::(oL R.fA R.fx R.fc)::(oS R.sA m.bH R.sc)::(oT R.tA m.bZ R.tc)::rr):=by subst J;subst O;exact S0
 clear S0 HW;have hlen:=(S.own 1 E).1;rw[jF (sz:=6) (λ_=>E)]at hlen;rw[hX]at hv;obtain⟨y,hy,hyb,tQ⟩:=NG.at_ hq;have hln:=mg (kL (hyb▸hv _ hq));have Cg:y.b.JU.length*48<=reachBytes:=by unfold reachBytes;omega
 have PE:=zV (hyb▸hv _ hq);obtain⟨ab,ao,uG⟩:=ET G.arr S (Qw 7 E hL);have harr:=G.arr;rw[uG]at S harr;refine iW 78 func32 ?_;refine cw [0,1,2] ?_;refine zQ ?_;have HQ:=λw h=>qm m.off q w h;rw[Z]at HQ;refine zN 4 ?_;refine vv (ay E E (eZ (cs:=(m.off.cells)) (St.rg 3 S E (AV)))) ?_;refine zQ ?_;refine Vm eQ S (HQ _ (Uk.nw hu S)) ?_;intro w1 S2;refine zN 3 ?_;refine iL S2 JZ ?_;intro b4 w5 S6;refine sa 0 S6 kQ ?_;intro w7 S8;refine zN 5 ?_;by_cases hP:PW.2=0
 ·by_cases hT:PW.1.node=tg
  ·refine iN S8 mixed kQ ?_;refine zN 22 ?_;refine iw λJ4 sU=>?_;refine zN 5 ?_;have yj:=sU.bg [0];rw[<-uG]at yj;have I:m.move q tg=m:=Zx Z (.inr (.inl hT));rw[I];exact⟨E,Wd.eU (X':=X) (z':=z) (Ls:=[]) (fA:=R.fA) (fc:=R.fc) (fx:=R.fx) (sA:=R.sA) (sc:=R.sc) (tA:=R.tA) (tc:=R.tc) J O hrr G hn yj NG.more (λu hu=>.inl hu) (aJ hX).symm G.PI.symm mI⟩
  have hpn:=hwn Y
  rcases hup:X.up with _|_
  ·refine iN S8 mixed kQ ?_;refine zN 12 ?_;refine ug (v:=.slice (aD ab ao) 5 R.nc) (λ_ aG7=>(ay E E (aV (St.cl 4 aG7 E Db)))) ?_;refine zQ ?_;refine ug (v:=D (n:Int)) (λ_ aG8=>(EU hpn (ay E E (aV (St.cl 0 aG8 E E))))) ?_;refine ug (λ_ _=>mY n) ?_;refine ug (v:=pV kn 0) (λ_ asx=>(ay E E (aV (J▸yY harr hn asx (Qw 8 E hL))))) ?_;refine zN 2 ?_;refine ug (v:=.bool false) (λ_ aG9=>(SQ hup (ay E E (aV (St.cl 1 aG9 E E))))) ?_;refine zN 2 ?_;refine iw λU4 tO=>?_;refine zN 5 ?_;have zF:=tO.bg [0];rw[<-uG]at zF;have I:m.move q tg=m:=Zx Z (.inr (.inr (by rw[hpn,dW,hX];exact hup)));rw[I];exact⟨E,Wd.eU (X':=X) (z':=z) (Ls:=[]) (fA:=R.fA) (fc:=R.fc) (fx:=R.fx) (sA:=R.sA) (sc:=R.sc) (tA:=R.tA) (tc:=R.tc) J O hrr G hn zF NG.more (λu hu=>.inl hu) (aJ hX).symm G.PI.symm mI⟩
  refine iN S8 mixed kQ ?_;refine zN 12 ?_;refine ug (v:=.slice (aD ab ao) 5 R.nc) (λ_ aeW=>(ay E E (aV (St.cl 4 aeW E Db)))) ?_;refine zQ ?_;refine ug (v:=D (n:Int)) (λ_ aHa=>(EU hpn (ay E E (aV (St.cl 0 aHa E E))))) ?_;refine ug (λ_ _=>mY n) ?_;refine ug (v:=pV kn 0) (λ_ aHb=>(ay E E (aV (J▸yY harr hn aHb (Qw 8 E hL))))) ?_;refine zN 2 ?_;refine ug (v:=.bool true) (λ_ aHc=>(SQ hup (ay E E (aV (St.cl 1 aHc E E))))) ?_;refine zN 2 ?_;refine iw λw69 CP=>?_;refine zN 5 ?_;refine iN CP mixed kQ ?_;refine zN 3 ?_;refine uv (v:=.slice (aD ab ao) 5 R.nc) (λ_ asv=>(ay E E (aV (St.cl 4 asv E Db)))) ?_;refine zQ ?_;refine uv (v:=D (n:Int)) (λ_ ase=>(EU hpn (ay E E (aV (St.cl 0 ase E E))))) ?_;refine uv (λ_ _=>mY n) ?_;refine uv (v:=pV kn 0) (λ_ aHd=>(ay E E (aV (J▸yY harr hn aHd (Qw 8 E hL))))) ?_;refine zQ ?_;refine iw λw80 xJ=>?_;refine zN 2 ?_;obtain⟨BR,tT⟩:∃r,wh y.b tg=r:=⟨_,E⟩;have HP:=λw h=>ajM y.b.GR y.b.ep y.b.fr y.b.tg y.b.rd y.A y.c y.b.JU tg w h Cg;rw[show wh ⟨y.b.GR,y.b.ep,y.b.fr,y.b.tg,y.b.rd,y.b.JU⟩ tg=BR from tT]at HP;refine zN 6 ?_;refine vv (mY q) ?_;refine vv (ay E E (eZ (cs:=BX.cells y) (Rd.Al (St.Vj 2 xJ E) (λ_ _ h=>dw (enc:=BX.cells) (sz:=6) (λ_=>E) hy h)))) ?_;refine zQ ?_;refine eB eQ (HP _ (tQ.1.rd xJ (Qw 8 E hL))) ?_;rintro _ w85 ⟨M,c83,aA5,rfl,T87⟩;refine⟨_,E,?_⟩;have CQ:=xJ.ext T87 E;refine zN 3 ?_;refine iL CQ iI ?_;intro b88 w89 Vf;refine sa 0 Vf kQ ?_;intro w91 AB;refine zN 4 ?_;by_cases hB:BR.2=0
  ·by_cases hE:BR.1.ep=PW.1.Pf
   ·refine zN 13 ?_;have F6:=AB.drew;refine gT 8 6 F6 [] ?_;iterate 6 refine jf ?_
    refine gy kQ E E E ?_;refine vv (mY q) ?_;refine mZ (xs':=(z.bx.set q (⟨BR.1,M,c83⟩:BX)).flatMap BX.cells) 4 F6 (wn E) E E E E E E zP E (dh E) (by omega) (by rw[fq];exact uj (enc:=BX.cells) (sz:=6) (λ_=>E) (⟨BR.1,M,c83⟩:BX) _ _ (by omega)) ?_;intro alp zw;have hy102:(z.bx.set q (⟨BR.1,M,c83⟩:BX))[q]? =some (⟨BR.1,M,c83⟩:BX):=qV Y;refine zQ ?_;refine jY ?_;refine dD (l':=[]) trivial (ru ?_);have wV:=zw.bg [2,0];have Cb:=wV.fJ [7,7,7,7,7,7,7];rw[<-uG]at Cb;have I:m.move q tg=m.put n (X.aF q BR.1):=avI Z hP hT hpn hX hup (by rw[<-hyb];exact tT) hB hE;rw[I];exact⟨E,Wd.eU (X':=(X.aF q BR.1)) (z':={z with bx:=z.bx.set q (⟨BR.1,M,c83⟩:BX)}) (Ls:=[.dB 6 M BR.1.JU.length ((BR.1.JU).flatMap Ev.cells)]) (fA:=R.fA) (fc:=R.fc) (fx:=R.fx) (sA:=R.sA) (sc:=R.sc) (tA:=R.tA) (tc:=R.tc) J O hrr G hn Cb (fC.aqT (dX:=(⟨BR.1,M,c83⟩:BX)) NG.more hq ⟨Ro.dB (aL _ (bS.2 ⟨0,E⟩)),aA5⟩) (λu hu=>.inl hu) E G.PI.symm mI⟩
   refine zN 15 ?_;have rD:=AB.bg [2,0];have PD:=rD.fJ [7,7,7,7,7,7,7];rw[<-uG]at PD;have I:m.move q tg=m:=aiM Z hpn hX (by rw[<-hyb];exact tT) (λe=>hE e.2);rw[I];exact⟨E,Wd.eU (X':=X) (z':=z) (Ls:=[.dB 6 M BR.1.JU.length ((BR.1.JU).flatMap Ev.cells)]) (fA:=R.fA) (fc:=R.fc) (fx:=R.fx) (sA:=R.sA) (sc:=R.sc) (tA:=R.tA) (tc:=R.tc) J O hrr G hn PD NG.more (λu hu=>.inl hu) (aJ hX).symm G.PI.symm mI⟩
  refine zN 15 ?_;have IJ:=AB.bg [2,0];have yG:=IJ.fJ [7,7,7,7,7,7,7];rw[<-uG]at yG;have I:m.move q tg=m:=aiM Z hpn hX (by rw[<-hyb];exact tT) (λe=>hB e.1);rw[I];exact⟨E,Wd.eU (X':=X) (z':=z) (Ls:=[.dB 6 M BR.1.JU.length ((BR.1.JU).flatMap Ev.cells)]) (fA:=R.fA) (fc:=R.fc) (fx:=R.fx) (sA:=R.sA) (sc:=R.sc) (tA:=R.tA) (tc:=R.tc) J O hrr G hn yG NG.more (λu hu=>.inl hu) (aJ hX).symm G.PI.symm mI⟩
 refine iN S8 mixed kQ ?_;refine zN 22 ?_;refine iw λar7 Ca=>?_;refine zN 5 ?_;have C8:=Ca.bg [0];rw[<-uG]at C8;have I:m.move q tg=m:=Zx Z (.inl hP);rw[I];exact⟨E,Wd.eU (X':=X) (z':=z) (Ls:=[]) (fA:=R.fA) (fc:=R.fc) (fx:=R.fx) (sA:=R.sA) (sc:=R.sc) (tA:=R.tA) (tc:=R.tc) J O hrr G hn C8 NG.more (λu hu=>.inl hu) (aJ hX).symm G.PI.symm mI⟩
def aeP{B I n turn dc:Nat}{up:Bool}{J:Option Addr}{data:List UInt8}{Qr:Int}{Hh:Nat->Pl}{Us:Nat->Bool}{bv iv pv:Value}{w0 w:World}{fs:List Nf}{L:List Nf}{rs:List dN}{RA:Option Addr}{rc:Nat}(hw:gD data Qr rs=none)(M:Ro fs 10 RA rs.length (rs.flatMap dN.cells))(O:Ro L 1 J data.length (JV data))(hL:∀f∈L,f∈fs)(Z:rs.length<=1000000)(S:St B w0 w ((.Pj I (eP n up (.slice J data.length dc) Qr bv Hh Us iv pv turn) 95)::fs)):
 Calls tP 38 #[pV I 0,.slice RA rs.length rc] w (λe w'=>e=.returned (.bool false)/\St B w0 w' ((.Pj I (eP n up (.slice J data.length dc) Qr bv Hh Us iv pv turn) 95)::fs)):=(JC (rc:=rc) M O hL Z S).mono λe w' h=>h.elim (λh=>h.2) λ⟨_,_,_,_,h,_⟩=>by rw[hw]at h;cases h
def aeQ{B I n turn dc:Nat}{up:Bool}{Z:Option Addr}{data:List UInt8}{Qr:Int}{Hh:Nat->Pl}{Us:Nat->Bool}{bv iv pv:Value}{w0 w:World}{fs:List Nf}{L:List Nf}{d':List UInt8}{rs:List dN}{RA:Option Addr}{rc:Nat}(hw:gD data Qr rs=some d')(J:Ro fs 10 RA rs.length (rs.flatMap dN.cells))(M:Ro L 1 Z data.length (JV data))(hL:∀f∈L,f∈fs)(O:rs.length<=1000000)(S:St B w0 w ((.Pj I (eP n up (.slice Z data.length dc) Qr bv Hh Us iv pv turn) 95)::fs)):
 Calls tP 38 #[pV I 0,.slice RA rs.length rc] w (λe w'=> ∃A' c' N,e=.returned (.bool true)/\Ro (L++N) 1 A' d'.length (JV d')/\St B w0 w' ((.Pj I (eP n up (.slice A' d'.length c') Qr bv Hh Us iv pv turn) 95)::(fs++N))):=(JC (rc:=rc) J M hL O S).mono λe w' h=>h.elim (λh=>by rw[hw]at h;cases h.1) λ⟨d2,A',c',N,h,h1,h2,h3⟩=>by
 rw[hw]at h
 cases h;exact⟨A',c',N,h1,h2,h3⟩
def akG{kn kw:Nat}{L:List Nf}:∀ {p:Option cZ} {v:Value},sK kn kw L p v->v.oneCell'=true
 |none,v,h=>by
  have I:v=.nilFunc:=h;subst I;rfl
 |some p,v,h=>by
  obtain⟨f,xs,ys,rfl⟩:=NV h;rfl
def aA6{me turn:Nat}{up:Bool}{tv bv iv pv:Value}{Qr:Int}{H:Nat->Pl}{U:Nat->Bool}(h1:tv.oneCell'=true)(I:bv.oneCell'=true)(J:iv.oneCell'=true)(M:pv.oneCell'=true):∀u∈(eP me up tv Qr bv H U iv pv turn).toList,u.oneCell'=true:=by
 intro u h;simp only[eP,mem_cons,not_mem_nil,or_false]at h
 rcases h with rfl|rfl|rfl|rfl|rfl|rfl|rfl|rfl|rfl|rfl|rfl|rfl|rfl|rfl|rfl|rfl|rfl|rfl|rfl|rfl<;>first|rfl|assumption
def Ta(I:∀y∈bs,y.b.JU.length<=y.c)(y:BX)(h:y∈bs):EM (gL bs) y:=⟨Ro.dB (nJ.2 ⟨y,h,E⟩),I y h⟩
def Zy(h:bs.map BX.b=vB V)(J:k<4):∃y,bs[k]? =some y/\y.b=V k:=by
 have M:bs.length=4:=by have:=bM length h;simpa[vB]using this
 refine⟨bs[k],dJ Y,?_⟩;have h1:(bs.map BX.b)[k]? =some (bs[k]).b:=by rw[qX,dJ Y];rfl
 rw[h]at h1;have I:k=0\/k=1\/k=2\/k=3:=Y
 rcases I with rfl|rfl|rfl|rfl<;>(simp only[vB]at h1;exact(wT h1).symm)
def avJ:vB V=vB (λj=>if j<0/\(V j).GR=1 then(gU (V j)).1 else V j):=Dq λj _=>by rw[ah Y]
def agH(h:¬(V k).GR=1):vB (λj=>if j<k/\(V j).GR=1 then(gU (V j)).1 else V j)=vB (λj=>if j<k+1/\(V j).GR=1 then(gU (V j)).1 else V j):=Dq λj _=>by
 by_cases e:j=k
 ·subst e;rw[ah (λI=>h I.2),ah (λI=>h I.2)]
 by_cases J:j<k/\(V j).GR=1
 ·rw[aj J,aj ⟨by omega,J.2⟩]
 rw[ah J,ah (λI=>J ⟨by omega,I.2⟩)]
def agI(I:k<4)(J:(V k).GR=1)(M:(gU (V k)).1=b):(vB (λj=>if j<k/\(V j).GR=1 then(gU (V j)).1 else V j)).set k b=vB (λj=>if j<k+1/\(V j).GR=1 then(gU (V j)).1 else V j):=by
 rw[Zj I];refine Dq λj _=>?_;by_cases e:j=k
 ·subst e;rw[JR,aj ⟨by omega,J⟩,M]
 rw[Ph e];by_cases h:j<k/\(V j).GR=1
 ·rw[aj h,aj ⟨by omega,h.2⟩]
 rw[ah h,ah (λO=>h ⟨by omega,O.2⟩)]
def agJ{r:List Nat}(h:¬(V k).GR=1):gP s V (k::r) d=gP s V r d:=by rw[gP,aj h]
def agK{r:List Nat}(h:(V k).GR=1)(h1:(gU (V k)).2=0)(I:gD d s [gW 2 k (V k).ep 0 bC]=some d'):gP s V (k::r) d=gP s V r d':=by
 rw[gP,ah (λe=>e h),ah (λe=>e h1),I]
def akH{r:List Nat}(h:(V k).GR=1)(h1:¬(gU (V k)).2=0):gP s V (k::r) d=none:=by rw[gP,ah (λe=>e h),aj h1]
def akI{r:List Nat}(h:(V k).GR=1)(I:gD d s [gW 2 k (V k).ep 0 bC]=none):gP s V (k::r) d=none:=by
 rw[gP,ah (λe=>e h)]
 split
 ·rfl
 rw[I]
def NW:∀ {M:List Nat} {d d':List UInt8},gP s V M d=some d'-> ∀q∈M,(V q).GR=1->aA (rF (V q))=0/\gU (V q)=(rF (V q),0)
 |[],d,d',h,q,I,_=>by simp at I
 |k::r,d,d',h,q,I,J=>by
  rw[gP]at h;by_cases c1:(V k).GR≠1
  ·rw[aj c1]at h
   rcases iR.1 I with rfl|I
   ·exact av J c1
   exact NW h q I J
  rw[ah c1]at h;by_cases c2:(gU (V k)).2≠0
  ·rw[aj c2]at h;cases h
  rw[ah c2]at h
  split at h
  ·cases h
  rcases iR.1 I with rfl|I
  ·exact adn J c2
  exact NW h q I J
def agL(h:gP s V [0,1,2,3] d=some d')(q:Nat)(J:q<4):(V q).GR=1->aA (rF (V q))=0/\gU (V q)=(rF (V q),0):=NW h q (by
 have I:q=0\/q=1\/q=2\/q=3:=Y
 rcases I with rfl|rfl|rfl|rfl<;>decide)
def akJ(hw:(V k).GR=1->aA (rF (V k))=0/\gU (V k)=(rF (V k),0))(h:x.b=if k<4/\(V k).GR=1 then(gU (V k)).1 else V k)(I:¬x.b.GR=1):¬(V k).GR=1:=λe=>I (by
 rw[h]
 split
 ·rw[(hw e).2];rfl
 exact e)
def akK(J:x.b=if k<4/\(V k).GR=1 then(gU (V k)).1 else V k)(I:x.b.GR=1):(V k).GR=1:=by
 by_cases c:(V k).GR=1
 ·exact c
 rw[J,ah (λh=>c h.2)]at I;exact I
def abZ{r:List Nat}(h:¬(V k).GR=1):Cl.UF n V (k::r) mm=Cl.UF n V r mm:=by rw[Cl.UF,aj h]
def ab0{r:List Nat}(h:(V k).GR=1)(I:md=((mm.recover n k).aF n k (gU (V k)).1).UR n k bC iP (-1)):Cl.UF n V (k::r) mm=Cl.UF n V r md:=by rw[Cl.UF,ah (λe=>e h),I]
def agM{q:Nat}(h:mm.au n=X):(mm.aF n q b).UR n q bC iP (-1)={mm.put n (X.aF q b)with bH:=mm.bH++[⟨n,q,b.ep,bC,iP,-1⟩],Qx:=kG mm.Qx n q (b.ep,(b.JU.length:Int))}:=by
 subst h;have e:((mm.aF n q b).au n).bs q=b:=by
  show(Qv mm.au n _ n).bs q=b
  rw[JR];exact JR _ _ _
 unfold Cl.UR;rw[e];rfl
def ao7(h:∀q,q<4->aA (X.bs q)=0)(I:aA b=0)(j:Nat)(J:j<4):aA ((X.aF k b).bs j)=0:=by
 show aA (Qv X.bs k b j)=0
 by_cases e:j=k
 ·rw[e,JR];exact I
 rw[Ph e];exact h j J
def ME{f:Nat->Nat->Int×Int}{a q:Nat}{e:Int}{l:List Ev}(h:∀a b,0<=(f a b).2)(i j:Nat):0<=(kG f a q (e,(l.length:Int)) i j).2:=by
 unfold kG
 split
 ·exact Int.natCast_nonneg _
 exact h i j
def JM(m:Cl)(n q:Nat)(h:∀a b,0<=(m.Qx a b).2):(m.recover n q).au=m.au/\(m.recover n q).PI=m.PI/\ ∀a b,0<=((m.recover n q).Qx a b).2:=by
 have tl:∀(m:Cl) e a u,(∀a b,0<=(m.Qx a b).2)-> ∀i j,0<=((m.UR n q e a u).Qx i j).2:=λm e a u h=>ME h;have rc:∀(il:List Nat) (m:Cl) JU an,(∀a b,0<=(m.Qx a b).2)->(m.recovered n q JU an il).au=m.au/\(m.recovered n q JU an il).PI=m.PI/\ ∀i j,0<=((m.recovered n q JU an il).Qx i j).2:=by
  intro il
  induction il with
  |nil=>intro m JU an h;exact⟨E,E,h⟩
  |cons i r I=>
   intro m JU an h;rw[Cl.recovered];exact I _ JU an (tl m _ _ _ h)
 unfold Cl.recover
 split
 ·exact⟨E,E,tl m _ _ _ h⟩
 exact rc _ m _ _ h
def akL(h:(m.au n).up=true):m.start n=m:=aj h
def Xw(I:m.au n=X)(J:X.up=false)(h:gP (lC X.data X.Qr).2.1 (dH X.data X.Qr) [0,1,2,3] (lC X.data X.Qr).1=none):m.start n=m:=by
 subst I;unfold Cl.start;rw[ah (by rw[J];simp),h]
def agN(I:m.au n=X)(J:X.up=false)(h:gP (lC X.data X.Qr).2.1 (dH X.data X.Qr) [0,1,2,3] (lC X.data X.Qr).1=some d):
 m.start n=Cl.UF n (dH X.data X.Qr) [0,1,2,3] (m.put n {X.blank with up:=true,data:=d,Qr:=(d.length:Int),bs:=dH X.data X.Qr}):=by
 subst I;unfold Cl.start;rw[ah (by rw[J];simp),h]
def hwl(ws:List BX):List LX:=ws.map λy=>⟨{JU:=y.b.JU},y.A,y.c⟩
def avK(h:∀u∈hwl ws++H,Vt L u)(I:ws[k]? =some x):EM L x:=h ⟨{JU:=x.b.JU},x.A,x.c⟩ (bO _ (nJ.2 ⟨x,jm I,E⟩))
def ao8{P:LX->Prop}(h:∀y∈ws,P ⟨{JU:=y.b.JU},y.A,y.c⟩):∀u∈hwl ws++H,u∈H\/P u:=λu I=>(bD.1 I).elim (λh1=>by obtain⟨y,J,rfl⟩:=nJ.1 h1;exact .inr (h y J)) .inl
def EM.more{N:List Nf}(h:EM L x):EM (L++N) x:=h.mono λ_ I=>bO _ I
def akM{K:CK}{B:Nat}{w0 w:World}{fs:List Nf}(h:Wd K B w0 w fs m (hwl ws++H)):Wd K B w0 w fs m H:=by
 obtain⟨R,G,S⟩:=h;exact⟨R,⟨G.PI,G.flo,G.jO,G.arr,λu I=>G.hld u (aL _ I)⟩,S⟩
def aHe{l7 N Ls:List Nf}{f:Nf}(h:f∈l7):f∈L++((l7++N)++Ls):=aL _ (bO _ (bO _ h))
def aHf{l7 Ls:List Nf}{f:Nf}(h:f∈l7):f∈L++(l7++Ls):=aL _ (bO _ h)
def YV{K:CK}{B n kn kw:Nat}{w0 w:World}{fs:List Nf}{m:Cl}{H:List LX}(hn:n<5)(hkn:K.nb n=kn)(jw:K.wb=kw)(hu:Uk B w0)(hB1:m.PI.length<=1000000000)(hB2:m.bH.length<=900000000000)(HW:Wd K B w0 w fs m H)(hT:FQ (m.au n).data (m.au n).Qr=some (vB (dH (m.au n).data (m.au n).Qr)))(hvv:∀q,q<4->aA (dH (m.au n).data (m.au n).Qr q)=0)(hbz:(xQ (lC (m.au n).data (m.au n).Qr).1 (lC (m.au n).data (m.au n).Qr).2.1).1.length*80<=reachBytes)(hmay:∀d,gP (lC (m.au n).data (m.au n).Qr).2.1 (dH (m.au n).data (m.au n).Qr) [0,1,2,3] (lC (m.au n).data (m.au n).Qr).1=some d->dS d (lC (m.au n).data (m.au n).Qr).2.1=true)(hsh:∀a b,0<=(m.Qx a b).2):
 Calls tP 31 #[pV kw 0,pV kn 0] w (λe w'=>e=.returned (.tuple #[])/\Wd K B w0 w' fs (m.start n) H):=by
 obtain⟨R,G,S0⟩:=HW.open hn;have hfl:R.fx.length=m.PI.length:=by rw[<-G.PI,gK]
 have NG:=G.jO n hn;obtain⟨X,hX⟩:∃X,m.au n=X:=⟨_,E⟩;obtain⟨z,hz⟩:∃z,R.nx n=z:=⟨_,E⟩;rw[hX,hz]at S0 NG;have hL:∀f∈R.L,f∈iM K R m fs n:=λf h=>aL _ (aL _ h);obtain⟨rr,hrr⟩:∃r,iM K R m fs n=r:=⟨_,E⟩;rw[hrr]at S0 hL;have S:St B w0 w (cN kn n X z z.pv (cF kw R m rr)):=by subst hkn;subst jw;exact S0
 clear S0 HW;have hlen:=(S.own 1 E).1;rw[jF (sz:=6) (λ_=>E)]at hlen;have aHg:z.pv.oneCell'=true:=akG NG.nU;obtain⟨P1,hP1⟩:∃r,lC X.data X.Qr=r:=⟨_,E⟩;rw[hX]at hT hvv hbz hmay;have HRd:=λw h=>K5 z.tA z.tc X.data X.Qr w h hT hbz;rw[hP1]at HRd hmay;refine iW 113 func31 ?_;refine cw [0,1] ?_;refine zN 9 ?_
 cases hb1:(X.up)
 ·refine bK (l':=[(0,pV kw 0),(1,pV kn 0),(18,.bool false)]) Jh (oD E (uH (iY (aX (aH (vm ?_))))));refine zN 2 ?_;refine vv (ay E E (eZ (cs:=[.slice z.tA X.data.length z.tc,D X.Qr]) (St.rg 0 S E (vI)))) ?_;refine eB eQ (HRd _ (NG.AX.rd S (Qw 7 E hL))) ?_;rintro _ w9 ⟨A2,c3,bB,bs,hbm,hbl,hbc,rfl,T8⟩;refine⟨_,E,?_⟩;have F8:=S.ext T8 (by simp[NU,Nf.K8]);have Fp:St B w0 w9 ((oB bB bs)::(.dB 1 A2 P1.1.length (JV P1.1))::(cN kn n X z z.pv (cF kw R m (rr++gL bs)))):=St.perm F8 (Perm.cons _ (Perm.cons _ (Bv (l₁:=gL bs))));clear S;refine zN 3 ?_;refine iL Fp Ck ?_;intro b12 Hq oJ;refine stA 0 oJ kQ ?_;intro OI rX;refine zN 6 ?_;refine eB eQ (adS _ 4 4 (bs.flatMap BX.cells) _ (St.Vj 1 rX E) (aou _) dQ) ?_;rintro _ Jm ⟨A17,I,rfl,aHh,aHi⟩;refine⟨_,E,?_⟩;have lY:=rX.xB aHh aHi;obtain⟨wB,hWA⟩:=zO (lY.own 0 E) dQ;subst hWA;refine zN 8 ?_;refine iL lY azT ?_;intro Dj RD nC;refine stA 0 nC kQ ?_ (h1:=by exact aA6 E E E aHg);intro Rt xq;refine zN 6 ?_;refine kU (row':=eP n X.up (.slice A2 P1.1.length c3) P1.2.1 (.slice (aD z.bb 0) 4 4) X.QC X.QA (.slice z.iA z.ix.length z.ic) (z.pv) X.turn) 0 xq kQ ?_;intro w28 xL;refine zN 11 ?_;have Ew:=xL.bg [2];have tN:St B w0 w28 (_::_::_::_::_::_::_::_::_::_::((rr++gL bs)++[.dB 1 A2 P1.1.length (JV P1.1)])):=Ew.toEnd 3 E;have uh:=tN.fJ [9,9,9,9,9,9,9];refine fV (X:=Nat×(Option Addr)×Nat×(List UInt8)×(List BX)×(List Nf)) (λO=>[(0,pV kw 0),(1,pV kn 0),(5,.slice (aD bB 0) 4 4),(6,.slice (aD wB 0) 4 I),(7,pV Dj 0),(34,.slice (aD bB 0) 4 4),(35,D 4),(36,D (O.1:Int))]) (λO wr=>(O.1<=4)/\(gP P1.2.1 (dH X.data X.Qr) [0,1,2,3] P1.1=gP P1.2.1 (dH X.data X.Qr) ((range 4).drop O.1) O.2.2.2.1)/\(O.2.2.2.2.1.map BX.b=vB (λj=>if j<O.1/\((dH X.data X.Qr) j).GR=1 then(gU ((dH X.data X.Qr) j)).1 else(dH X.data X.Qr) j))/\(∀y∈O.2.2.2.2.1,EM (gL bs++O.2.2.2.2.2) y)/\(Ro O.2.2.2.2.2 1 O.2.1 O.2.2.2.1.length (JV O.2.2.2.1))/\St B w0 wr (cN kn n X z z.pv (cF kw R m ((bN Dj n X.up O.2.1 O.2.2.2.1 O.2.2.1 P1.2.1 z.bb X.QC X.QA z.iA z.ix z.ic z.pv X.turn)::(.own 58 6 (.slice (aD wB 0) 4 I) 4 ((O.2.2.2.2.1).flatMap BX.cells))::(oB bB bs)::((rr++gL bs)++O.2.2.2.2.2))))) (λO=>4-O.1) (0,A2,c3,P1.1,bs,[.dB 1 A2 P1.1.length (JV P1.1)]) ?_ ?_ ?_
  ·exact⟨aC _,E,(by rw[hbm];exact avJ),(λy hy=>(Ta hbc y hy).mono λf hf=>bO _ hf),(Ro.dB (aI.2 E)),uh⟩
  ·exact Y8
  rintro⟨k,A9,c9,d9,ws,N9⟩ w33 ⟨asG,Wh,aao,alQ,VZ,uO⟩
  try dsimp only at asG Wh aao alQ VZ uO
  refine bK (l':=[(0,pV kw 0),(1,pV kn 0),(5,.slice (aD bB 0) 4 4),(6,.slice (aD wB 0) 4 I),(7,pV Dj 0),(34,.slice (aD bB 0) 4 4),(35,D 4),(36,D ((k:Nat):Int))]) Y8 (aX (aH ?_));by_cases h40:((k:Nat):Int)<4
  ·refine zN 10 ?_;have J:k<4:=Y;obtain⟨y,hy,hyV⟩:=Zy hbm J;have tQ:=Ta hbc y (jm hy);obtain⟨y0,hy0,_⟩:=Zy aao J;have hlw:ws.length=4:=by have:=bM length aao;simpa[vB]using this
   have hvk:=hvv k J;have hln:=mg (kL hvk);have Cg:y.b.JU.length*48<=reachBytes:=by rw[hyV];unfold reachBytes;omega
   have PE:=zV hvk;refine zN 2 ?_;refine vv (mY k) ?_;refine vv (ay E E (eZ (cs:=BX.cells y) (Rd.Al (St.Vj 9 uO E) (λ_ _ h=>dw (enc:=BX.cells) (sz:=6) (λ_=>E) hy h)))) ?_;refine iL uO iI ?_;intro b41 WG vU;refine zQ ?_;refine stA 0 vU kQ ?_;intro U4 tO;refine zN 7 ?_;by_cases h46:y.b.GR=1
   ·refine zN 7 ?_;obtain⟨BR,tT⟩:∃r,gU y.b=r:=⟨_,E⟩;have HP:=λw h=>abB y.b.GR y.b.ep y.b.fr y.b.tg y.b.rd y.A y.c y.b.JU w h Cg;rw[show gU ⟨y.b.GR,y.b.ep,y.b.fr,y.b.tg,y.b.rd,y.b.JU⟩=BR from tT]at HP;refine zN 2 ?_;refine eB eQ (HP _ (tQ.1.rd tO (Qw 11 E (λf hf=>bO _ (aL _ hf))))) ?_;rintro _ Zb ⟨Qm,c48,aA7,rfl,T52⟩;refine⟨_,E,?_⟩;have yh:=tO.ext T52 E;refine zN 3 ?_;refine iL yh iI ?_;intro b53 w54 zh;refine stA 0 zh kQ ?_;intro w56 yR;refine zN 7 ?_;refine Vm eQ yR (kD 2 k y _) ?_;intro w58 Ez;refine iL Ez zR ?_;intro b61 w62 zD;refine stA 0 zD kQ ?_;intro w64 Hu;refine zN 4 ?_;refine vv (v:=.agg #[D 4,D 0,D 0,D 0,D 0,D 0]) iE ?_;refine zQ ?_;refine kU (row':= #[D 2,D ((k:Nat):Int),D y.b.ep,D 0,D 4,D 0,D 0,D 0,D 0,D 0]) 0 Hu kQ ?_;intro Zc xI;refine zN 4 ?_;by_cases hB:BR.2=0
    ·rcases alR:gD d9 P1.2.1 [gW 2 k y.b.ep 0 bC]with _|aHj
     ·refine zN 5 ?_;refine mE (V:=λb=>.slice (aD b 0) 1 1) (row:= #[D 2,D ((k:Nat):Int),D y.b.ep,D 0,D 4,D 0,D 0,D 0,D 0,D 0]) (t:=132) xI (wg E E E E) E E (bq (vs:=[(0,.agg #[D 2,D ((k:Nat):Int),D y.b.ep,D 0,D 4,D 0,D 0,D 0,D 0,D 0])]) E Aq kQ) ?_;intro b70 w71 Jo;have xu:=Jo.fJ [12];refine BI eQ (aeP (rs:=[gW 2 k y.b.ep 0 bC]) alR (Ro.Pj (bS.2 ⟨0,E⟩) E E) VZ (by exact Qw 14 E λf hf=>aL _ hf) (fK E) xu) ?_;rintro _ w78 ⟨rfl,F4⟩;refine⟨_,E,?_⟩;refine zN 13 ?_;have EF:=F4.bg [14,13,5,4,3,2,1,0];have xJ:=(EF).Vv.Vv;have hr1:((dH X.data X.Qr) k).GR=1:=by rw[<-hyV];omega
      have Ct:m.start n=m:=Xw hX ‹_› (by rw[hP1,Wh,qh J];exact akI hr1 (by rw[<-hyV];exact alR));rw[Ct];exact⟨E,Wd.eU (X':=X) (z':=z) (Ls:=[]) (fA:=R.fA) (fc:=R.fc) (fx:=R.fx) (sA:=R.sA) (sc:=R.sc) (tA:=R.tA) (tc:=R.tc) hkn jw hrr G hn xJ NG.more (λu hu=>.inl hu) (aJ hX).symm G.PI.symm mI⟩
     refine zN 5 ?_;refine mE (V:=λb=>.slice (aD b 0) 1 1) (row:= #[D 2,D ((k:Nat):Int),D y.b.ep,D 0,D 4,D 0,D 0,D 0,D 0,D 0]) (t:=132) xI (wg E E E E) E E (bq (vs:=[(0,.agg #[D 2,D ((k:Nat):Int),D y.b.ep,D 0,D 4,D 0,D 0,D 0,D 0,D 0])]) E Aq kQ) ?_;intro b82 w83 Jp;have Hw:=Jp.fJ [12];refine BI eQ (aeQ (rs:=[gW 2 k y.b.ep 0 bC]) alR (Ro.Pj (bS.2 ⟨0,E⟩) E E) VZ (by exact Qw 14 E λf hf=>aL _ hf) (fK E) Hw) ?_;rintro _ w90 ⟨A86,c87,N88,rfl,aA8,U5⟩;refine⟨_,E,?_⟩;refine zN 11 ?_;refine vv (mY k) ?_;refine mZ (xs':=(ws.set k (⟨BR.1,Qm,c48⟩:BX)).flatMap BX.cells) 13 U5 (wn E) E E E E E E zP E (dh E) (by omega) (by rw[fq];exact uj (enc:=BX.cells) (sz:=6) (λ_=>E) (⟨BR.1,Qm,c48⟩:BX) _ _ (by omega)) ?_;intro w92 F6;have aPb:(ws.set k (⟨BR.1,Qm,c48⟩:BX))[k]? =some (⟨BR.1,Qm,c48⟩:BX):=qV Y;refine zN 4 ?_;refine vv (v:=D ((k+1:Nat):Int)) jB ?_;refine zN 2 ?_;have KV:=F6.bg [5,3,2,1];have EG:St B w0 w92 (_::_::_::_::_::_::_::_::_::_::((((rr++gL bs)++N9)++N88)++[.dB 6 Qm BR.1.JU.length ((BR.1.JU).flatMap Ev.cells)])):=KV.toEnd 1 E;have Gb:=EG.fJ [7,7,7,7,7,7,7];have Gg:=Gb;have hr1:((dH X.data X.Qr) k).GR=1:=by rw[<-hyV];omega
     have hap:((((rr++gL bs)++N9)++N88)++[.dB 6 Qm BR.1.JU.length ((BR.1.JU).flatMap Ev.cells)])=((rr++gL bs)++(N9++(N88++[.dB 6 Qm BR.1.JU.length ((BR.1.JU).flatMap Ev.cells)]))):=by simp only[append_assoc]
     rw[hap]at Gg;refine bQ (k+1,A86,c87,aHj,ws.set k (⟨BR.1,Qm,c48⟩:BX),N9++(N88++[.dB 6 Qm BR.1.JU.length ((BR.1.JU).flatMap Ev.cells)])) ?_ Y8 (by first|omega|(dsimp only;omega));exact⟨uQ,(by dsimp only;rw[Wh,qh J];exact agK hr1 (by rw[<-hyV,tT];exact hB) (by rw[<-hyV];exact alR)),(by dsimp only;rw[map_set,aao];exact agI J hr1 (by rw[<-hyV,tT])),(Ia (λu hu=>(alQ u hu).mono (λf hf=>(bD.1 hf).elim (λh=>bO _ h) λh=>aL _ (bO _ h))) ⟨Ro.dB (aL _ (aL _ (aL _ (aI.2 E)))),aA7⟩),(aA8.mono (λf hf=>(bD.1 hf).elim (λh=>bO _ h) λh=>aL _ (bO _ h))),Gg⟩
    refine zN 20 ?_;have S99:=xI.bg [13,12,11,3,2,1,0];have xM:=(S99).Vv.Vv;have hr1:((dH X.data X.Qr) k).GR=1:=by rw[<-hyV];omega
    have Ct:m.start n=m:=Xw hX ‹_› (by rw[hP1,Wh,qh J];exact akH hr1 (by rw[<-hyV,tT];exact hB));rw[Ct];exact⟨E,Wd.eU (X':=X) (z':=z) (Ls:=[]) (fA:=R.fA) (fc:=R.fc) (fx:=R.fx) (sA:=R.sA) (sc:=R.sc) (tA:=R.tA) (tc:=R.tc) hkn jw hrr G hn xM NG.more (λu hu=>.inl hu) (aJ hX).symm G.PI.symm mI⟩
   refine zN 9 ?_;refine vv (v:=D ((k+1:Nat):Int)) jB ?_;refine zN 2 ?_;have zw:=tO.bg [0];have uz:=zw;have hro:¬((dH X.data X.Qr) k).GR=1:=by rw[<-hyV];assumption
   refine bQ (k+1,A9,c9,d9,ws,N9) ?_ Y8 (by first|omega|(dsimp only;omega));exact⟨uQ,(by dsimp only;rw[Wh,qh J];exact agJ hro),(by dsimp only;rw[aao];exact agH hro),alQ,VZ,uz⟩
  refine zN 15 ?_;refine kU (row':=eP n true (.slice z.tA X.data.length z.tc) X.Qr (.slice (aD z.bb 0) 4 4) X.QC X.QA (.slice z.iA z.ix.length z.ic) (z.pv) X.turn) 0 uO kQ ?_;intro aGX Cb;refine zN 5 ?_;refine eB eQ (qw Cb hu) ?_;rintro _ afs ⟨rfl,aA9,IJ⟩;refine⟨_,E,?_⟩;have yG:=IJ.bg [3,2,1];refine zN 6 ?_;refine vv (ay E E (eZ (cs:=[.slice A9 d9.length c9,D P1.2.1]) (St.rg 5 yG E (vI)))) ?_;have hwA:gP P1.2.1 (dH X.data X.Qr) [0,1,2,3] P1.1=some d9:=by rw[Wh,sS (by rw[Ib];omega)];rfl
  have JL:=λw h=>D5 (rP A9 d9.length c9 d9 P1.2.1 w h);rw[BD (hmay _ hwA)]at JL;refine eB eQ (JL _ (VZ.rd yG (Qw 8 E λf hf=>aL _ hf))) ?_;rintro _ afn ⟨R8,V7,rfl,aHk⟩;refine⟨_,E,?_⟩;have EI:=yG.ext aHk E;refine zN 5 ?_;refine kU (row':=eP n true (.slice R8 d9.length V7) (d9.length:Int) (.slice (aD aA9 0) 4 4) (λ_=>nowhere) (λ_=>false) (.slice none 0 0) (.nilFunc) X.turn) 1 EI kQ ?_;intro arD tF;refine zN 8 ?_;refine kU (row':=eP n true (.slice R8 d9.length V7) (d9.length:Int) (.slice (aD bB 0) 4 4) (λ_=>nowhere) (λ_=>false) (.slice none 0 0) (.nilFunc) X.turn) 1 tF kQ ?_;intro axB C8;refine zN 10 ?_;have hwA:gP P1.2.1 (dH X.data X.Qr) [0,1,2,3] P1.1=some d9:=by rw[Wh,sS (by rw[Ib];omega)];rfl
  have aHl:k=4:=Y;have hsp:=aao;rw[aHl]at hsp;have zu:=C8.bg [6];have yI:=zu.Fb 113 23;have vR:=(((((((((yI.bring 7 E).bring 2 E).bring 7 E).bring 7 E).bring 7 E).bring 7 E).bring 6 E).bring 8 E).bring 8 E);rw[show((rr++gL bs)++N9)=(rr++(gL bs++N9))from gq ..]at vR;obtain⟨m1,hm1⟩:∃k,k=m.put n {X.blank with up:=true,data:=d9,Qr:=(d9.length:Int),bs:=(dH X.data X.Qr)}:=⟨_,E⟩;have HW1:Wd K B w0 axB ((.own 58 6 (.slice (aD wB 0) 4 I) 4 ((ws).flatMap BX.cells))::fs) m1 (hwl ws++H):=by
   rw[hm1];refine Wd.fin (m:=m) (fs:=(.own 58 6 (.slice (aD wB 0) 4 I) 4 ((ws).flatMap BX.cells))::fs) (X':={X.blank with up:=true,data:=d9,Qr:=(d9.length:Int),bs:=(dH X.data X.Qr)}) (z':={bb:=bB,tA:=R8,tc:=V7,bx:=bs,iA:=none,ic:=0,ix:=[],pv:=.nilFunc}) (N:=gL bs++N9) (Ls:=[.dB 1 R8 d9.length (JV d9)]) (rr:=(.own 58 6 (.slice (aD wB 0) 4 I) 4 ((ws).flatMap BX.cells))::rr) (H:=H) (fA:=R.fA) (fc:=R.fc) (fx:=R.fx) (sA:=R.sA) (sc:=R.sc) (tA:=R.tA) (tc:=R.tc) hkn jw (by rw[<-hrr];rfl) G hn vR ⟨hbm,λu hu=>(Ta hbc u hu).mono (λf hf=>aHe hf),Ro.dB (vJ (aI.2 E)),E,λu hu=>by simp at hu,E⟩ (λu hu=>.inl hu) E G.PI.symm ?_;exact ao8 λy hy=>(alQ y hy).mono λf hf=>aHf hf
  have hwo:=agL hwA;have ayU:m1.au n={X.blank with up:=true,data:=d9,Qr:=(d9.length:Int),bs:=(dH X.data X.Qr)}:=by rw[hm1];exact bL _
  refine fV (X:=Nat×Cl) (λO=>[(0,pV kw 0),(1,pV kn 0),(85,.slice (aD wB 0) 4 I),(86,D 4),(87,D (O.1:Int))]) (λO wr=>(Wd K B w0 wr ((.own 58 6 (.slice (aD wB 0) 4 I) 4 ((ws).flatMap BX.cells))::fs) O.2 (hwl ws++H))/\(Cl.UF n (dH X.data X.Qr) [0,1,2,3] m1=Cl.UF n (dH X.data X.Qr) ((range 4).drop O.1) O.2)/\(O.1<=4)/\(O.2.PI=m.PI)/\(∀j,j<4->aA ((O.2.au n).bs j)=0)/\(∀j,O.1<=j->j<4->(O.2.au n).bs j=(dH X.data X.Qr) j)/\(∀a b,0<=(O.2.Qx a b).2)/\(O.2.bH.length<=m.bH.length+2001*O.1)/\St B w0 wr [.own 58 6 (.slice (aD wB 0) 4 I) 4 ((ws).flatMap BX.cells)]) (λO=>4-O.1) (0,m1) ?_ ?_ ?_
  ·exact⟨HW1,E,aC _,by rw[hm1];rfl,λj hj=>by dsimp only;rw[ayU];exact hvv j hj,λj _ _=>by dsimp only;rw[ayU],λa b=>by dsimp only;rw[hm1];exact hsh a b,by dsimp only;rw[hm1];exact aB,Wd.KZ (gs:=[.own 58 6 (.slice (aD wB 0) 4 I) 4 ((ws).flatMap BX.cells)]) HW1⟩
  ·exact Dc
  rintro⟨M,mm⟩ afp ⟨ahr,aap,aBa,aaq,Z,aar,aas,aBb,FM⟩
  try dsimp only at ahr aap aBa aaq Z aar aas aBb FM
  refine bK (l':=[(0,pV kw 0),(1,pV kn 0),(85,.slice (aD wB 0) 4 I),(86,D 4),(87,D (M:Int))]) Dc ?_;obtain⟨R3,G3,Zz⟩:=ahr.open hn;have Xx:=G3.jO n hn;obtain⟨X3,Xy⟩:∃X,mm.au n=X:=⟨_,E⟩;obtain⟨z3,hz3⟩:∃z,R3.nx n=z:=⟨_,E⟩;rw[Xy,hz3]at Zz Xx;obtain⟨rr3,MF⟩:∃r,iM K R3 mm fs n=r:=⟨_,E⟩;have aPc:R3.fx.length=mm.PI.length:=by rw[<-G3.PI,gK]
  have BQ:St B w0 afp (cN kn n X3 z3 z3.pv (cF kw R3 mm ((.own 58 6 (.slice (aD wB 0) 4 I) 4 ((ws).flatMap BX.cells))::rr3))):=by rw[<-MF];subst hkn;subst jw;exact Zz
  clear Zz;have hlen3:=(BQ.own 1 E).1;rw[jF (sz:=6) (λ_=>E)]at hlen3;rw[Xy]at Z aar;refine zN 2 ?_;by_cases aPd:(M:Int)<4
  ·refine zN 10 ?_;have J:M<4:=Y;obtain⟨x,hx,hxs⟩:=Zy hsp J;refine zN 2 ?_;refine vv (mY M) ?_;refine vv (ay E E (eZ (cs:=BX.cells x) (Rd.Al (St.Vj 7 BQ E) (λ_ _ h=>dw (enc:=BX.cells) (sz:=6) (λ_=>E) hx h)))) ?_;refine iL BQ iI ?_;intro asH awW Pw;refine zQ ?_;refine sa 0 Pw kQ ?_;intro afh EH;refine zN 7 ?_;by_cases aPe:x.b.GR=1
   ·refine zN 11 ?_;have EB:=EH.fJ [7,7,7,7,7,7,7];have aBd:=Wd.eU (m:=mm) (m':=mm) (H:=hwl ws++H) (H':=hwl ws++H) (fs:=(.Pj asH (bR x.b x.A x.c) 58)::(.own 58 6 (.slice (aD wB 0) 4 I) 4 ((ws).flatMap BX.cells))::fs) (X':=X3) (z':=z3) (Ls:=[]) (fA:=R3.fA) (fc:=R3.fc) (fx:=R3.fx) (sA:=R3.sA) (sc:=R3.sc) (tA:=R3.tA) (tc:=R3.tc) (rr:=(.Pj asH (bR x.b x.A x.c) 58)::(.own 58 6 (.slice (aD wB 0) 4 I) 4 ((ws).flatMap BX.cells))::rr3) hkn jw (by rw[<-MF];rfl) G3 hn EB Xx.more (λu hu=>.inl hu) (aJ Xy).symm G3.PI.symm mI;refine eB eQ (acB hn hkn jw hu (by rw[aaq];exact hB1) Y J aBd (by rw[Xy];exact Z) (aas n M)) ?_;rintro _ aHm ⟨rfl,aqV⟩;refine⟨_,E,?_⟩;have Q8:=JM mm n M (aas);have hrs:=(JE (n:=n) (q:=M) mm (by rw[Xy];exact mg (kL (Z M J)))).2;obtain⟨mc,hmc⟩:∃k,k=mm.recover n M:=⟨_,E⟩;rw[<-hmc]at aqV Q8 hrs;obtain⟨R5,G5,S05⟩:=aqV.open hn;have NG5:=G5.jO n hn;obtain⟨X5,hX5⟩:∃X,mc.au n=X:=⟨_,E⟩;obtain⟨z5,hz5⟩:∃z,R5.nx n=z:=⟨_,E⟩;rw[hX5,hz5]at S05 NG5;obtain⟨rr5,ayV⟩:∃r,iM K R5 mc fs n=r:=⟨_,E⟩;have aPf:R5.fx.length=mc.PI.length:=by rw[<-G5.PI,gK]
    have ZQ:St B w0 aHm (cN kn n X5 z5 z5.pv (cF kw R5 mc ((.Pj asH (bR x.b x.A x.c) 58)::(.own 58 6 (.slice (aD wB 0) 4 I) 4 ((ws).flatMap BX.cells))::rr5))):=by rw[<-ayV];subst hkn;subst jw;exact S05
    clear S05;have aBe:=(ZQ.own 1 E).1;rw[jF (sz:=6) (λ_=>E)]at aBe;obtain⟨y5,hy5,aPg,aPh⟩:=NG5.at_ J;refine zN 3 ?_;have ZX:=ZQ.drew;refine gT 8 6 ZX [] ?_;iterate 6 refine jf ?_
    refine gy kQ E E E ?_;refine vv (mY M) ?_;refine mZ (xs':=(z5.bx.set M (⟨x.b,x.A,x.c⟩:BX)).flatMap BX.cells) 1 ZX (wn E) E E E E E E zP E (dh E) (by omega) (by rw[fq];exact uj (enc:=BX.cells) (sz:=6) (λ_=>E) (⟨x.b,x.A,x.c⟩:BX) _ _ (by omega)) ?_;intro aGj LY;have hy153:(z5.bx.set M (⟨x.b,x.A,x.c⟩:BX))[M]? =some (⟨x.b,x.A,x.c⟩:BX):=qV Y;refine zQ ?_;refine jY ?_;refine zN 5 ?_;refine vv (v:=.agg #[D 4,D 0,D 0,D 0,D 0,D 0]) iE ?_;refine zQ ?_;refine eB eQ (qp hn J hy153 bC iP (-1) LY Y) ?_;rintro _ aHn ⟨rfl,aHo,aHp,aJ1,aBf,arV⟩;refine⟨_,E,?_⟩;subst aBf;have LZ:=arV.bg [7];have hr1:((dH X.data X.Qr) M).GR=1:=akK hxs Y;have hxb:x.b=rF ((dH X.data X.Qr) M):=by rw[hxs,aj ⟨J,hr1⟩,(hwo M J hr1).2]
    obtain⟨md,hmd⟩:∃k,k=(mc.aF n M x.b).UR n M bC iP (-1):=⟨_,E⟩;have aHq:md=((mm.recover n M).aF n M (gU ((dH X.data X.Qr) M)).1).UR n M bC iP (-1):=by rw[hmd,hmc,hxb,(hwo M J hr1).2]
    have agO:md={mc.put n (X5.aF M x.b)with bH:=mc.bH++[⟨n,M,x.b.ep,bC,iP,-1⟩],Qx:=kG mc.Qx n M (x.b.ep,(x.b.JU.length:Int))}:=by rw[hmd];exact agM hX5
    have aHr:md.PI=mm.PI:=by rw[agO];exact Q8.2.1
    have hnm:(mc.au n)=X3:=by rw[Q8.1,Xy]
    have ayW:X5=X3:=by rw[<-hX5];exact hnm
    have ayX:md.au n=X5.aF M x.b:=by rw[agO];exact bL _
    have aHs:∀j,j<4->aA ((md.au n).bs j)=0:=λj hj=>by rw[ayX];exact ao7 (by rw[ayW];exact Z) (by rw[hxb];exact(hwo M J hr1).1) j hj
    have aHt:∀j,M+1<=j->j<4->(md.au n).bs j=(dH X.data X.Qr) j:=λj h1 h2=>by rw[ayX,ayW];exact(Ph Y).trans (aar j Y h2)
    have aHu:∀a b,0<=(md.Qx a b).2:=by rw[agO];exact ME (a:=n) (q:=M) (e:=x.b.ep) (l:=x.b.JU) Q8.2.2
    have aPi:md.bH.length=mc.bH.length+1:=by rw[agO];exact aY ..
    clear hmd;have aqW:Wd K B w0 aHn ((.own 58 6 (.slice (aD wB 0) 4 I) 4 ((ws).flatMap BX.cells))::fs) md (hwl ws++H):=by
     rw[agO];exact Wd.eU (m:=mc) (H:=hwl ws++H) (fs:=(.own 58 6 (.slice (aD wB 0) 4 I) 4 ((ws).flatMap BX.cells))::fs) (X':=X5.aF M x.b) (z':={z5 with bx:=z5.bx.set M (⟨x.b,x.A,x.c⟩:BX)}) (Ls:=[]) (fA:=R5.fA) (fc:=R5.fc) (fx:=R5.fx) (sA:=aHo) (sc:=aHp) (tA:=R5.tA) (tc:=R5.tc) (rr:=(.own 58 6 (.slice (aD wB 0) 4 I) 4 ((ws).flatMap BX.cells))::rr5) hkn jw (by rw[<-ayV];rfl) G5 hn LZ (fC.aqT (dX:=x) NG5.more J (avK G5.hld hx).more) (λu hu=>.inl hu) E G5.PI.symm mI
    refine zN 4 ?_;refine vv (v:=D ((M+1:Nat):Int)) jB ?_;refine zN 2 ?_;refine bQ (M+1,md) ?_ Dc (by first|omega|(dsimp only;omega));exact⟨aqW,(by dsimp only;rw[aap,qh J];exact ab0 hr1 aHq),uQ,(by dsimp only;rw[aHr];exact aaq),(by dsimp only;exact aHs),(by dsimp only;exact aHt),(by dsimp only;exact aHu),uQ,(Wd.KZ (gs:=[.own 58 6 (.slice (aD wB 0) 4 I) 4 ((ws).flatMap BX.cells)]) aqW)⟩
   refine zN 9 ?_;refine vv (v:=D ((M+1:Nat):Int)) jB ?_;refine zN 2 ?_;have L6:=EH.bg [0];have aat:=Wd.eU (m:=mm) (m':=mm) (H:=hwl ws++H) (H':=hwl ws++H) (fs:=(.own 58 6 (.slice (aD wB 0) 4 I) 4 ((ws).flatMap BX.cells))::fs) (X':=X3) (z':=z3) (Ls:=[]) (fA:=R3.fA) (fc:=R3.fc) (fx:=R3.fx) (sA:=R3.sA) (sc:=R3.sc) (tA:=R3.tA) (tc:=R3.tc) (rr:=(.own 58 6 (.slice (aD wB 0) 4 I) 4 ((ws).flatMap BX.cells))::rr3) hkn jw (by rw[<-MF];rfl) G3 hn L6 Xx.more (λu hu=>.inl hu) (aJ Xy).symm G3.PI.symm mI;have hro:¬((dH X.data X.Qr) M).GR=1:=akJ (hwo M J) hxs ‹_›;refine bQ (M+1,mm) ?_ Dc (by first|omega|(dsimp only;omega));exact⟨aat,(by dsimp only;rw[aap,qh J];exact abZ hro),uQ,aaq,(by dsimp only;rw[Xy];exact Z),(by dsimp only;rw[Xy];exact λj h1 h2=>aar j Y h2),aas,uQ,(Wd.KZ (gs:=[.own 58 6 (.slice (aD wB 0) 4 I) 4 ((ws).flatMap BX.cells)]) aat)⟩
  refine zN 10 ?_;have Ct:m.start n=mm:=by rw[agN hX ‹_› (by rw[hP1];exact hwA),<-hm1,aap,sS (by rw[Ib];omega)];rfl
  rw[Ct];exact⟨E,akM (Wd.less (gs:=[.own 58 6 (.slice (aD wB 0) 4 I) 4 ((ws).flatMap BX.cells)]) ahr)⟩
 refine bK (l':=[(0,pV kw 0),(1,pV kn 0),(18,.bool true)]) Jh (oC E (rT (jq (fB (rs:=[]) (vs:=[]) E trivial ?_))));have Ct:m.start n=m:=akL (by rw[hX];assumption);rw[Ct];exact⟨E,Wd.eU (X':=X) (z':=z) (Ls:=[]) (fA:=R.fA) (fc:=R.fc) (fx:=R.fx) (sA:=R.sA) (sc:=R.sc) (tA:=R.tA) (tc:=R.tc) hkn jw hrr G hn S NG.more (λu hu=>.inl hu) (aJ hX).symm G.PI.symm mI⟩
def Kn.nE(h:Kn X):∀q,q<4->aA (X.bs q)=0:=by
 rcases h with⟨_,rs,us,h⟩|⟨_,rs,t,f,h⟩
 ·exact h.nE
 exact h.bz
def Kn.tp(h:Kn X):∃rs t f,X.data=dn rs++t/\(Qy t).2=0/\jH rs f/\(∀q,q<4->aA (f q)=0)/\X.data.length<=100000/\0<=X.Qr/\X.Qr<=X.data.length:=by
 rcases h with⟨_,rs,us,h⟩|⟨_,rs,t,f,h⟩
 ·have J:=h.data;have Z:=bM length J;rw[nV,aY]at Z;have hs:=h.Qr
  cases M:X.PL with
  |none=>
   have hu:=h.tV M;refine⟨rs,[],_,by rw[J,hu,bI,bI],AQ,h.tape,λq I=>(Zm h.nE I).1,h.len,by omega,by omega⟩
  |some p=>
   obtain⟨h1,h2,h3⟩:=h.JD p M;obtain⟨O,h5⟩:=jI h.tape h.nE h2 h3;rw[<-h1]at O;refine⟨rs++us,[],_,by rw[J,bI],AQ,O,λq I=>?_,h.len,by omega,by omega⟩;refine xS ?_;by_cases e:q=p.q
   ·rw[e,JR];exact h5
   rw[Ph e];exact h.nE q I
 exact⟨rs,t,f,h.data,h.ayi,h.tape,λq I=>(h.nE q I).1,h.len,h.Qr.1,h.Qr.2⟩
def Kn.may(h:Kn X):dS X.data X.Qr=true:=by
 obtain⟨rs,t,f,_,_,_,_,h1,I,J⟩:=h.tp;simp only[dS,Bool.and_eq_true,decide_eq_true_eq];exact⟨⟨h1,I⟩,J⟩
def Kn.aHv(h:Kn X){rs:List dN}{d:List UInt8}(hw:gD X.data X.Qr rs=some d):dS d X.Qr=true:=by
 obtain⟨_,_,_,_,_,_,_,h1,O,Z⟩:=h.tp;obtain⟨I,_,J⟩:=vL hw;have:=J h1;have M:=bM length I;rw[aY]at M;simp only[dS,Bool.and_eq_true,decide_eq_true_eq];omega
def Kn.fit(h:Kn X)(J:X.PL=some p):p.fit/\dS X.data X.Qr=true:=by
 refine⟨?_,h.may⟩
 rcases h with⟨_,rs,us,h⟩|⟨_,rs,t,f,h⟩
 ·obtain⟨h1,M,I⟩:=h.JD p J;obtain⟨Z,O⟩:=jI h.tape h.nE M I
  cases p with
  |serve q JU op num a=>exact⟨I,mg M.2.2.2⟩
  |QL q b=>exact I
  |UK q b last=>exact I
  |gJ q b at_=>exact⟨I,O⟩
  |QE q b=>exact I
 rw[h.nU]at J;cases J
def Un{s:Int}{f:Nat->bF}:∀(I:List Nat) {d d':List UInt8},gP s f I d=some d'->d.length<=d'.length/\(d.length<=100000->d'.length<=100000)
 |[],d,d',h=>by cases h;exact⟨aB,id⟩
 |q::r,d,d',h=>by
  rw[gP]at h
  split at h
  ·exact Un r h
  split at h
  ·cases h
  split at h
  ·cases h
  rename_i d2 hw
  obtain⟨J,_,M⟩:=vL hw;obtain⟨h1,O⟩:=Un r h;rw[J,aY]at h1;exact⟨by omega,λZ=>O (M Z)⟩
def adH:∀(rs:List dN),6*rs.length<=(dn rs).length
 |[]=>by simp[dn]
 |r::rs=>by
  have h1:=(Dp r).1;have h:=adH rs;have e:dn (r::rs)=oM r++dn rs:=by simp[dn,flatMap_cons]
  rw[e,aY,mO];omega
def Kn.VF(h:Kn X):FQ X.data X.Qr=some (vB (dH X.data X.Qr))/\(∀q,q<4->aA (dH X.data X.Qr q)=0)/\(xQ (lC X.data X.Qr).1 (lC X.data X.Qr).2.1).1.length*80<=reachBytes/\
  (∀d,gP (lC X.data X.Qr).2.1 (dH X.data X.Qr) [0,1,2,3] (lC X.data X.Qr).1=some d->dS d (lC X.data X.Qr).2.1=true):=by
 obtain⟨rs,t,f,J,ht,M,hb,h1,h2,h3⟩:=h.tp;obtain⟨O,r2,Z⟩:=M.read J ht h1 h2 h3;have hl:(dn rs).length<=X.data.length:=by rw[J,aY];omega
 have hg:=adH rs;refine⟨by rw[r2,Dq λq I=>(Z q I).symm],λq I=>by rw[Z q I];exact hb q I,?_,λd hw=>?_⟩
 ·rw[O];unfold xQ;rw[aj (by simp[dS];omega)];have:=BZ (t:=[]) M.1 AQ;rw[bI]at this;dsimp only;rw[this];unfold reachBytes;dsimp only;omega
 rw[O]at hw⊢;obtain⟨g1,g2⟩:=Un _ hw;dsimp only at g1 g2 hw⊢;have g3:=g2 Y;simp only[dS,Bool.and_eq_true,decide_eq_true_eq];omega
def lF.tgt{l:bY}(h:lF l):∃j,j<5/\(l.tg= -1\/l.tg= -2\/l.tg=((j:Nat):Int)):=by
 obtain⟨_,_,h1|h1|h1,_⟩:=h
 ·exact⟨0,by omega,.inl h1⟩
 ·exact⟨0,by omega,.inr (.inl h1.1)⟩
 exact⟨l.tg.toNat,by omega,.inr (.inr Y)⟩
def eF.fl{T S fP K:Nat}(h:eF m T S fP K):m.PI.length<=T:=by
 have:=Sq m (n:=0) Y;have:=h.room;omega
def eF.il{T S fP K:Nat}(h:eF m T S fP K)(hn:n<5):(m.au n).Pq.length<=T:=by
 have:=Sq m hn;have:=h.room;omega
def eF.fi{T S fP K:Nat}(h:eF m T S fP K)(hn:n<5):m.PI.length+(m.au n).Pq.length<=T:=by
 have:=Sq m hn;have:=h.room;omega
def U8(m:Cl):Prop:= ∀a b,0<=(m.Qx a b).2
def U8.of(h:U8 m)(e:m'.Qx=m.Qx):U8 m':=λa b=>by rw[e];exact h a b
def U8.UR{e:Ev}{a:kg}{u:Int}(h:U8 m):U8 (m.UR n q e a u):=ME h
def U8.done{op:Ev}{u:Int}{a:kg}(h:U8 m):U8 (m.done n q op u a):=by
 unfold Cl.done
 split
 ·exact(h.UR (n:=n) (q:=q) (e:=op) (a:=a) (u:=u)).of E
 exact h.of E
def U8.part{a:Int}(h:U8 m):U8 (m.part n q a):=by
 unfold Cl.part
 split
 ·exact h
 exact h.of E
def U8.serve(h:U8 m):U8 (m.serve n l):=by
 unfold Cl.serve
 split
 ·exact h.done
 split
 ·exact h.done
 exact h.of E
def U8.QB(h:U8 m):U8 (m.QB n l):=by
 unfold Cl.QB
 split
 ·exact h.serve
 split
 ·unfold Cl.Uv
  split
  ·exact h
  split
  ·exact h.of E
  split
  ·exact h
  exact h.of E
 split
 ·unfold Cl.UL
  split
  ·exact h
  split
  ·exact h
  split
  ·exact U8.part (h.of E)
  split
  ·exact h
  exact h.of E
 split
 ·unfold Cl.UK
  split
  ·exact h
  split
  ·exact h.of E
  split
  ·exact h
  split
  ·exact h
  exact h.of E
 unfold Cl.U1
 split
 ·exact h.of E
 split
 ·exact h.of E
 exact h.of E
def U8.drain:∀(ls:List bY) {m:Cl},U8 m->U8 (Cl.drain n ls m)
 |[],m,h=>h
 |l::r,m,h=>by
  rw[Cl.drain];have h1:U8 ((m.put n {m.au n with Pq:=r}).QB n l):=U8.QB (h.of E)
  split
  ·exact U8.drain r h1
  exact h1
def U8.AP{p:cZ}(h:U8 m):U8 (m.AP n p):=by
 cases p with
 |serve q JU op num a=>exact U8.done (h.of E)
 |QL q b=>exact h.of E
 |UK q b last=>
  unfold Cl.AP;dsimp only
  split
  ·exact U8.UR (h.of E)
  exact h.of E
 |gJ q b a=>exact U8.part (h.of E)
 |QE q b=>exact h.of E
def U8.step(h:U8 m):U8 (m.step n):=by
 unfold Cl.step
 split
 ·exact h
 split
 ·exact U8.AP (h.of E)
 split
 ·exact(h.drain _).of E
 exact h.drain _
def U8.QG(h:U8 m):U8 (m.QG l):=by
 unfold Cl.QG
 split
 ·exact h.of E
 split
 ·split<;>exact h.of E
 split
 ·exact h.of E
 exact h
def U8.comes:∀(ls:List bY) {m:Cl},U8 m->U8 (ls.foldl Cl.QG m)
 |[],_,h=>h
 |_::ls,_,h=>U8.comes ls h.QG
def U8.recover(h:U8 m):U8 (m.recover n q):=(JM m n q h).2.2
def U8.UF{bs:Nat->bF}:∀(I:List Nat) {m:Cl},U8 m->U8 (Cl.UF n bs I m)
 |[],_,h=>h
 |q::r,m,h=>by
  rw[Cl.UF]
  split
  ·exact U8.UF r h
  exact U8.UF r (U8.UR ((h.recover (n:=n) (q:=q)).of E))
def U8.UN{a:Ac}(h:U8 m):U8 (m.UN a):=by
 unfold Cl.UN
 split
 ·unfold Cl.make
  split
  ·exact h
  split
  ·exact h
  split
  ·exact h
  exact ME (l:=[]) h
 split
 ·exact h.of E
 split
 ·exact h.step
 split
 ·unfold Cl.pick
  split
  ·exact h
  dsimp only
  split
  ·refine U8.QG ?_
   split
   ·exact h
   exact h.of E
  split
  ·exact h
  exact h.of E
 split
 ·exact U8.comes _ (h.of E)
 split
 ·unfold Cl.Vz
  split
  ·exact h.of E
  exact h
 split
 ·unfold Cl.start
  split
  ·exact h
  split
  ·exact h
  exact U8.UF _ (h.of E)
 unfold Cl.move
 split
 ·exact h
 split
 ·exact h.of E
 exact h
end
end Go.Proofs.YtceeleolddkibaaGreatDoor
