import Derived.Test.YtefabpdniidmbaaGreatDoorG952cd
import Derived.Test.YtefabpdniidmbaaGreatDoorG9efb7
import Derived.Test.YtefabpdniidmbaaGreatDoorGeec04
set_option linter.all false
set_option maxRecDepth 100000
set_option maxHeartbeats 8000000
namespace Go.Proofs.YtefabpdniidmbaaGreatDoor
open List Nat Go.Proofs.Tryz
open ChangeShapes WideShapes RowKit
def yt {l:List UInt8}{s:Int}(h:dw l s=true):WT l s=(l,(l.length:Int),0):=if_pos h
def mI {H:List LX}{P:LX->Prop}:∀u∈H,u∈H\/P u:=λ_ h=>.inl h
def Ku {kn kw:Nat}{L:List Fact}{p:bO}{v:Value}(h:p9 kn kw L (some p) v):∃f xs ys,v=.func f xs ys:=by
 match p,h with
 | .serve ..,⟨_,_,_,_,_,_,_,_,_,h,_⟩=>exact⟨_,_,_,h⟩
 | .begun ..,⟨_,_,_,_,_,h,_⟩=>exact⟨_,_,_,h⟩
 | .got ..,⟨_,_,_,_,_,_,_,h,_⟩=>exact⟨_,_,_,h⟩
 | .fF ..,⟨_,_,_,_,_,_,_,h,_⟩=>exact⟨_,_,_,h⟩
 | .forget ..,⟨_,_,_,_,h,_⟩=>exact⟨_,_,_,h⟩
def dY.Iw {K:CK}{L L':List Fact}{n q c:Nat}{X:Nd}{z:NX}{A:Option Addr}{dB:BX}(h:dY K L n X z)(M:q<4)(I:∀f∈L,f∈L')(O: .cK 1 A X.data.length (byteCells X.data)∈L')(Z:BS L dB):
  dY K L' n (X.jC.aA q dB.b) {z with tA:=A,tc:=c,pv:=.nilFunc,bx:=z.bx.set q dB}:=
 ⟨Jc h.Rn M,Ej (λu J=>(h.Tv u J).mono I) (Z.mono I),Ro.cK O,h.ixm,λu J=>(h.ixo u J).mono I,E⟩
def dY.aCZ {K:CK}{L N:List Fact}{n c:Nat}{X:Nd}{z:NX}{A:Option Addr}{x:LX}{r:List LX}{v:Value}(h:dY K L n X z)(M:z.ix=x::r)(hv:z.pv=v):dY K (L++N) n (X.box (r.map LX.l)) {z with iA:=A,ic:=c,ix:=r,pv:=v}:=
 ⟨h.Rn,λu J=>(h.Tv u J).mono λ_ I=>mem_append_left _ I,h.xV.mono λ_ I=>mem_append_left _ I,E,λu J=>(h.ixo u (by rw[M];exact mem_cons_of_mem _ J)).mono λ_ I=>mem_append_left _ I,p9.mono (by have:=h.lF;rw[hv]at this;exact this) λ_ I=>mem_append_left _ I⟩
def ac8 {K:CK}{B n kn kw:Nat}{w0:World}{m:Cl}{H:List LX}{x:LX}(hn:n<5)(I:K.nb n=kn)(J:K.wb=kw)(Z:Uk B w0)(M:m.fly.length<=1000000000)(O:m.aV.length<=1000000000000)(hq:x.l.q<4)(hv:∀q,q<4->aj ((m.ah n).bs q)=0)(hxe:x.l.evs.length<=2000)(hkd:x.l.kd=0\/x.l.kd=2\/x.l.kd=3\/x.l.kd=4\/x.l.kd=6):
  ∃F:FuncId,(∀args w,(callFunc F args).run tP w=.ok (.enter F args) w)/\hMf kw x.l.kd=some (.func (.func F) #[pV kw 0] #[])/\(-9223372036854775808<=x.l.kd/\x.l.kd<=9223372036854775807)/\ ∀w fs,Wd K B w0 w fs m (x::H)->Calls tP F #[pV kw 0,pV kn 0,.agg (LX.row x)] w (λe w'=>e=.returned (.tuple #[])/\Wd K B w0 w' fs (m.handle n x.l) H):=by
 rcases hkd with h|h|h|h|h<;>unfold Cl.handle<;>simp only[h]
 ·exact⟨64,eQ,E,by decide,λw fs HW=>Vo hn I J Z M O HW hq hv⟩
 ·exact⟨65,eQ,E,by decide,λw fs HW=>Ng hn I J Z M O HW hq hv⟩
 ·exact⟨66,eQ,E,by decide,λw fs HW=>Nc hn I J Z M O HW hq hv⟩
 ·exact⟨67,eQ,E,by decide,λw fs HW=>YD hn I J Z M O HW hq hv hxe⟩
 exact⟨68,eQ,E,by decide,λw fs HW=>Nb hn I J Z M O HW hq hv⟩
def YR {K:CK} {B n kn kw:Nat} {w0 w:World} {fs:List Fact} {m:Cl} {H:List LX} (hn:n<5) (Z:K.nb n=kn) (iC:K.wb=kw) (hu:Uk B w0) (hB1:m.fly.length+(m.ah n).inbox.length<=900000000) (hB2:m.aV.length+(m.ah n).inbox.length<=900000000000) (htn:(m.ah n).turn<=1000000000000) (HW:Wd K B w0 w fs m H) (hv: ∀ q,q<4->aj ((m.ah n).bs q)=0) (hok: ∀ l∈(m.ah n).inbox,l.ok) (SY: ∀ p,(m.ah n).pend=some p->p.fit/\dw (m.ah n).data (m.ah n).syn=true):
    Calls tP 33 #[pV kw 0,pV kn 0] w (λe w'=>e=.returned (.tuple #[])/\Wd K B w0 w' fs (m.step n) H):=by
 obtain⟨R,G,S0⟩:=HW.open hn;have hfl:R.fx.length=m.fly.length:=by rw[<-G.fly,length_map]
 have NG:=G.iE n hn;obtain⟨X,hX⟩:∃X,m.ah n=X:=⟨_,E⟩;obtain⟨z,hz⟩:∃z,R.nx n=z:=⟨_,E⟩;rw[hX,hz]at S0 NG;have O:∀f∈R.L,f∈gD K R m fs n:=λf h=>mem_append_right _ (mem_append_right _ h);obtain⟨rr,hrr⟩:∃r,gD K R m fs n=r:=⟨_,E⟩;rw[hrr]at S0 O;obtain⟨pv0,auG⟩:∃v,z.pv=v:=⟨_,E⟩;have S:St B w0 w (cN kn n X z pv0 (cF kw R m rr)):=by rw[<-auG];subst Z;subst iC;exact S0
 clear S0;have hlen:=(S.own 1 E).1;rw[iG (sz:=6) (λ_=>E)]at hlen;refine gK 79 func33 ?_;refine cw [0,1] ?_;refine zN 7 ?_
 cases hb1:(X.up)
 ·refine zN 7 ?_;rw[mG (by rw[hX];assumption)];exact⟨E,HW⟩
 refine zN 8 ?_;have hpn:=NG.lF;change p9 (K.nb n) K.wb _ _ _ at hpn;rw[Z,iC,auG]at hpn
 rcases hp:X.pend with _|p
 ·rw[hp]at hpn;have hpf:pv0=.nilFunc:=hpn;subst hpf;refine zN 5 ?_;refine vv (v:=.bool false) (bC E E E Ki) ?_;refine zN 7 ?_;refine fO (X:=Cl) (λxv=>[(0,pV kw 0),(1,pV kn 0)]) (λxv wr=>(Wd K B w0 wr fs xv H)/\(m.more n=xv.more n)/\(xv.fly.length+(xv.ah n).inbox.length<=900000000)/\(xv.aV.length+(xv.ah n).inbox.length<=900000000000)/\(∀q,q<4->aj ((xv.ah n).bs q)=0)/\(∀l∈(xv.ah n).inbox,l.ok)/\((xv.ah n).turn=(m.ah n).turn)/\St B w0 wr []) (λxv=>(xv.ah n).inbox.length) (m) ?_ ?_ ?_
  ·exact⟨HW,E,hB1,hB2,hv,hok,E,Wd.Ii (gs:=[]) HW⟩
  ·exact xH
  rintro mm w2 ⟨hi4,hi5,hi6,hi7,hi8,hi9,Xk,S3⟩
  try dsimp only at hi4 hi5 hi6 hi7 hi8 hi9 Xk S3
  refine bH (l':=[(0,pV kw 0),(1,pV kn 0)]) xH ?_;obtain⟨R2,G2,S0⟩:=hi4.open hn;have NG2:=G2.iE n hn;obtain⟨X2,hX2⟩:∃X,mm.ah n=X:=⟨_,E⟩;obtain⟨z2,hz2⟩:∃z,R2.nx n=z:=⟨_,E⟩;rw[hX2,hz2]at S0 NG2;have hL2:∀f∈R2.L,f∈gD K R2 mm fs n:=λf h=>mem_append_right _ (mem_append_right _ h);obtain⟨rr2,auH⟩:∃r,gD K R2 mm fs n=r:=⟨_,E⟩;rw[auH]at S0 hL2;obtain⟨pv2,hpv2⟩:∃v,z2.pv=v:=⟨_,E⟩;obtain⟨iA2,aC0⟩:∃v,z2.iA=v:=⟨_,E⟩;obtain⟨ixv,ah0⟩:∃v,z2.ix=v:=⟨_,E⟩;have O6:=NG2.ixm;have Xl:=NG2.lF;change p9 (K.nb n) K.wb _ _ _ at Xl;rw[Z,iC,hpv2]at Xl;rw[ah0]at O6;have S1:St B w0 w2 (nF kn n X2.up z2.tA X2.data z2.tc X2.syn z2.bb X2.hints X2.sure iA2 ixv z2.ic pv2 X2.turn z2.bx (cF kw R2 mm rr2)):=by rw[<-hpv2,<-aC0,<-ah0];subst Z;subst iC;exact S0
  clear S0;rw[hX2]at hi6 hi7 hi8 hi9 Xk
  rcases hp2:X2.pend with _|p2
  ·rw[hp2]at Xl;have aov:pv2=.nilFunc:=Xl;subst aov;refine zN 8 ?_;by_cases h11:0< ((ixv.length:Nat):Int)
   ·refine zN 6 ?_;refine vg (v:=.bool true) (bC E E E Tz) ?_;refine zN 8 ?_;obtain⟨x,O7,hxx⟩:=exists_cons_of_length_pos (by omega:0<ixv.length);subst hxx;refine zN 5 ?_;obtain⟨rb,ro,hra,_,hrc⟩:=(St.avD 2 S1 E).2 iQ;subst hra;refine vv (kZ 0) ?_;refine vv (v:=.agg (LX.row x)) (au E E (dS (cs:=LX.cells x) (λj u hu=>by rw[Nat.add_assoc];exact hrc (0*23+j) u (dh (enc:=LX.cells) (sz:=23) (k:=0) (λ_=>E) E hu)))) ?_;refine gB S1 adQ ?_;intro b12 Ea mX;refine stA 0 mX kQ ?_ (h1:=Eh _);intro KY qK;refine zN 9 ?_;refine vv (v:=.slice (if z2.ic=1 then(some ⟨rb,ro,none⟩:Option Addr)else(some ⟨rb,ro,none⟩:Option Addr).map (·.add (1*23))) ((x::O7).length-1) (z2.ic-1)) (jY E E (jv E) nW nW (akP 1 underlying91 kQ iQ _)) ?_;refine zN 2 ?_;refine jF (row':=dM n X2.up (.slice z2.tA X2.data.length z2.tc) X2.syn (.slice (aD z2.bb 0) 4 4) X2.hints X2.sure (.slice (if z2.ic=1 then(some ⟨rb,ro,none⟩:Option Addr)else(some ⟨rb,ro,none⟩:Option Addr).map (·.add (1*23))) ((x::O7).length-1) (z2.ic-1)) (.nilFunc) X2.turn) 1 qK kQ ?_;intro ML qO;refine zN 2 ?_;have uz:=qO.eG [7,7,7,7,7,7,7];have pK:=uz.ap5 2 1 E iQ;obtain⟨hq,hxe,hkd⟩:=hi9 x.l (by rw[<-O6];exact mem_cons_self ..);have auI:=Wd.dP (fs:=[.blk b12 (LX.row x) 119]++fs) (X':=(X2.box (O7.map LX.l))) (z':={z2 with iA:=(if z2.ic=1 then(some ⟨rb,ro,none⟩:Option Addr)else(some ⟨rb,ro,none⟩:Option Addr).map (·.add (1*23))),ic:=z2.ic-1,ix:=O7,pv:=.nilFunc}) (m':=mm.put n (X2.box (O7.map LX.l))) (H':=x::H) (Ls:=[]) (fA:=R2.fA) (fc:=R2.fc) (fx:=R2.fx) (sA:=R2.sA) (sc:=R2.sc) (tA:=R2.tA) (tc:=R2.tc) (rr:=.blk b12 (LX.row x) 119::rr2) Z iC (by rw[<-auH];rfl) G2 hn pK (NG2.aCZ ah0 hpv2) (λu hu=>.inl hu) E G2.fly.symm (λu hu=>(mem_cons.1 hu).elim (λe=>.inr (e▸(by rw[append_nil];exact NG2.ixo x (by rw[ah0];exact mem_cons_self ..)))) .inl);subst hX2;have jX:=Wd.Ii (gs:=[.blk b12 (LX.row x) 119]) auI;have heh:=jV (m:=mm.put n ((mm.ah n).box (O7.map LX.l))) (n:=n) (l:=x.l) hq;obtain⟨F,hfe,hfv,hfz,hfc⟩:=ac8 (K:=K) (B:=B) (w0:=w0) (m:=mm.put n ((mm.ah n).box (O7.map LX.l))) (H:=H) (x:=x) hn Z iC hu (by show mm.fly.length<=_;omega) (by show mm.aV.length<=_;omega) hq (by rw[aW];exact hi8) hxe hkd;have uF:=jX.drew;refine aJ 8 uF [] ?_;refine aL 5 ?_;refine aY 1 ?_;refine kD 1 E eQ (Mg kw _) ?_;rintro _ Zt ⟨b29,rfl,T32⟩;refine⟨_,E,?_⟩;have auJ:=(Wd.drew auI).ext T32 E;have qB:=Wd.Ii (gs:=[.loc b29 (hMk kw),.blk b12 (LX.row x) 119]) auJ;refine dR ?_;refine aY 4 ?_;refine je (i:=4) E E (v:=.func (.func F) #[pV kw 0] #[]) (wn E) E E (kg 0 qB E E E E underlying3 underlying141 (zeroValue140 _) hfz hfv) ?_;refine dR ?_;refine aY 7 ?_;refine nu 7 E hfe (hfc _ _ auJ) ?_;rintro _ ZB ⟨rfl,auK⟩;refine⟨_,E,?_⟩;have sU:=Wd.Ii (gs:=[.loc b29 (hMk kw),.blk b12 (LX.row x) 119]) auK;have auL:=Wd.less (gs:=[.loc b29 (hMk kw),.blk b12 (LX.row x) 119]) auK;refine aL 2 ?_;refine zQ ?_;refine bQ (((mm.put n ((mm.ah n).box (O7.map LX.l))).handle n x.l)) ?_ xH (by(try dsimp only);rw[heh.iO,aW,<-O6];simp[Nd.box]);exact⟨auL,(hi5.trans (GJ hp2 O6.symm hq)),(by(try dsimp only);rw[heh.iO,aW];have:=heh.fly;rw[show((mm.ah n).box (O7.map LX.l)).inbox.length=O7.length from length_map ..];rw[<-O6]at hi6;simp only[length_map,length_cons]at hi6;have e9:(mm.put n ((mm.ah n).box (O7.map LX.l))).fly=mm.fly:=rfl;rw[e9]at this;omega),(by(try dsimp only);rw[heh.iO,aW];have:=heh.aV;rw[show((mm.ah n).box (O7.map LX.l)).inbox.length=O7.length from length_map ..];rw[<-O6]at hi7;simp only[length_map,length_cons]at hi7;have e9:(mm.put n ((mm.ah n).box (O7.map LX.l))).aV=mm.aV:=rfl;rw[e9]at this;omega),(heh.kX (by rw[aW];exact hi8)),(by(try dsimp only);rw[heh.iO,aW];exact λl hl=>hi9 l (by rw[<-O6];exact mem_cons_of_mem _ hl)),(by(try dsimp only);rw[heh.FJ,aW];exact Xk),(Wd.Ii (gs:=[]) auL)⟩
   refine zN 22 ?_;refine vv (v:=.bool true) (bC E E E Tz) ?_;refine zN 6 ?_;refine dO eQ (YE hn Z iC hu Y Y hi4 (by rw[hX2,Xk];exact htn) (by rw[hX2];exact hi8)) ?_;rintro _ w98 ⟨rfl,aC1⟩;refine⟨_,E,?_⟩;refine zQ ?_;refine bU (l':=[]) trivial (oP ?_);have J:X.up=true:=by assumption
   have hmo:m.more n=mm:=hi5.trans (Kk (by rw[hX2,<-O6,length_eq_zero_iff.1 (by omega:ixv.length=0)];rfl));rw[jq (by rw[hX];exact J) (by rw[hX];exact hp),hmo,if_pos (by rw[hX2,hp2])];exact⟨E,aC1⟩
  rw[hp2]at Xl;obtain⟨f2,xs2,ys2,aov⟩:=Ku Xl;subst aov;refine zN 8 ?_;by_cases aKN:0< ((ixv.length:Nat):Int)
  ·refine zN 6 ?_;refine vg (v:=.bool false) (bC E E E Kj) ?_;refine zN 15 ?_;refine vv (v:=.bool false) (bC E E E Kj) ?_;refine zN 5 ?_;have J:X.up=true:=by assumption
   have hmo:m.more n=mm:=hi5.trans (BU (by rw[hX2,hp2];simp));rw[jq (by rw[hX];exact J) (by rw[hX];exact hp),hmo,if_neg (by rw[hX2,hp2];simp)];exact⟨E,hi4⟩
  refine zN 22 ?_;refine vv (v:=.bool false) (bC E E E Kj) ?_;refine zN 5 ?_;have J:X.up=true:=by assumption
  have hmo:m.more n=mm:=hi5.trans (BU (by rw[hX2,hp2];simp));rw[jq (by rw[hX];exact J) (by rw[hX];exact hp),hmo,if_neg (by rw[hX2,hp2];simp)];exact⟨E,hi4⟩
 obtain⟨hft,htm⟩:=SY _ (hX▸hp);rw[hX]at htm
 rcases p with⟨q,evs,op,num,a⟩|⟨q,b⟩|⟨q,b,last⟩|⟨q,b,at_⟩|⟨q,b⟩
 ·rw[hp]at hpn;obtain⟨b1,b2,b3,b4,b5,b6,b7,M,x,hpf,hm1,he,I,hm2,GI,MW,TU,hm6,hop,aC2,hm7⟩:=hpn;subst hpf;subst he;subst hop;subst aC2;have hq:q<4:=hft.1;obtain⟨y,hy,hyb,qD⟩:=NG.at_ hq;refine zN 5 ?_;refine vv (v:=.bool true) (bC E E E xu) ?_;refine zN 9 ?_;refine vv (au E E (dS (cs:=[.slice z.tA X.data.length z.tc,D X.syn]) (St.rg 0 S E (rV)))) ?_;have FY:=λw h=>Bg (pF z.tA X.data.length z.tc X.data X.syn w h);rw[yt htm]at FY;refine dO eQ (FY _ (NG.xV.rd S (memT 7 E O))) ?_;rintro _ aC3 ⟨Xm,ah1,rfl,aC4⟩;refine⟨_,E,?_⟩;have yM:=S.ext aC4 E;refine zN 5 ?_;refine jF (row':=dM n X.up (.slice Xm X.data.length ah1) ((X.data.length:Nat):Int) (.slice (aD z.bb 0) 4 4) X.hints X.sure (.slice z.iA z.ix.length z.ic) (.func (.func 88) #[] #[gP b1,gP b2,gP b3,gP b4,gP b5]) X.turn) 1 yM kQ ?_;intro abD EI;refine zN 16 ?_;refine jF (row':=dM n X.up (.slice Xm X.data.length ah1) ((X.data.length:Nat):Int) (.slice (aD z.bb 0) 4 4) X.hints X.sure (.slice z.iA z.ix.length z.ic) (.nilFunc) X.turn) 1 EI kQ ?_;intro ato I6;refine zN 5 ?_;have qX:=I6.eG [7,7,7,7,7,7,7];refine wh eQ (Rx hn hq hy qX (memT 1 E O _ hm1) (memT 1 E O _ hm2) (memT 1 E O _ GI) (memT 1 E O _ MW) (memT 1 E O _ TU) (memT 1 E O _ hm6) (memT 1 E O _ hm7) hu Y Y) ?_;rintro _ abF ⟨rfl,hd1,hd2⟩;refine⟨_,E,?_⟩;refine zQ ?_;refine bU (l':=[]) trivial (dF (oD (ig (dX (rs:=[]) (vs:=[]) E trivial ?_))));have J:X.up=true:=by assumption
  by_cases hs:serves y.b
  ·obtain⟨sA',sc',sv',JJ,JK,OD,h1,h2,S9⟩:=hd1 hs;subst h1;subst h2;rw[jr hX J hp hyb.symm hs];exact⟨E,Wd.dP (X':=X.jC.aA q {y.b with evs:=M.b.evs}) (z':={z with tA:=Xm,tc:=ah1,pv:=.nilFunc,bx:=z.bx.set q (⟨{y.b with evs:=M.b.evs},M.A,M.c⟩:BX)}) (Ls:=[.cK 1 Xm X.data.length (byteCells X.data)]) (fA:=JJ) (fc:=JK) (fx:=_) (sA:=sA') (sc:=sc') (tA:=R.tA) (tc:=R.tc) Z iC hrr G hn S9 (NG.Iw hq (dB:=(⟨{y.b with evs:=M.b.evs},M.A,M.c⟩:BX)) (λf hf=>mem_append_left _ hf) (mem_append_right _ (mem_singleton.2 E)) I) (oW (iW E)) E (by rw[map_append,G.fly];rfl) mI⟩
  obtain⟨JJ,JK,OD,h2,S9⟩:=hd2 hs;subst h2;rw[Na hX J hp hyb.symm hs];exact⟨E,Wd.dP (X':=X.jC.aA q {y.b with evs:=M.b.evs}) (z':={z with tA:=Xm,tc:=ah1,pv:=.nilFunc,bx:=z.bx.set q (⟨{y.b with evs:=M.b.evs},M.A,M.c⟩:BX)}) (Ls:=[.cK 1 Xm X.data.length (byteCells X.data)]) (fA:=JJ) (fc:=JK) (fx:=_) (sA:=R.sA) (sc:=R.sc) (tA:=R.tA) (tc:=R.tc) Z iC hrr G hn S9 (NG.Iw hq (dB:=(⟨{y.b with evs:=M.b.evs},M.A,M.c⟩:BX)) (λf hf=>mem_append_left _ hf) (mem_append_right _ (mem_singleton.2 E)) I) (oW (iW E)) E (by rw[map_append,G.fly];rfl) mI⟩
 ·rw[hp]at hpn;obtain⟨b1,b2,b3,b4,M,hpf,hm1,he,I,hm2,GI,MW⟩:=hpn;subst hpf;subst he;have hq:q<4:=hft;obtain⟨y,hy,hyb,qD⟩:=NG.at_ hq;refine zN 5 ?_;refine vv (v:=.bool true) (bC E E E xu) ?_;refine zN 9 ?_;refine vv (au E E (dS (cs:=[.slice z.tA X.data.length z.tc,D X.syn]) (St.rg 0 S E (rV)))) ?_;have FY:=λw h=>Bg (pF z.tA X.data.length z.tc X.data X.syn w h);rw[yt htm]at FY;refine dO eQ (FY _ (NG.xV.rd S (memT 7 E O))) ?_;rintro _ anx ⟨ah2,aow,rfl,aC5⟩;refine⟨_,E,?_⟩;have qY:=S.ext aC5 E;refine zN 5 ?_;refine jF (row':=dM n X.up (.slice ah2 X.data.length aow) ((X.data.length:Nat):Int) (.slice (aD z.bb 0) 4 4) X.hints X.sure (.slice z.iA z.ix.length z.ic) (.func (.func 91) #[] #[gP b1,gP b2,gP b3,gP b4]) X.turn) 1 qY kQ ?_;intro abG wo;refine zN 16 ?_;refine jF (row':=dM n X.up (.slice ah2 X.data.length aow) ((X.data.length:Nat):Int) (.slice (aD z.bb 0) 4 4) X.hints X.sure (.slice z.iA z.ix.length z.ic) (.nilFunc) X.turn) 1 wo kQ ?_;intro asu uE;refine zN 5 ?_;have GA:=uE.eG [7,7,7,7,7,7,7];refine wh eQ (Ry hn hq hy GA (memT 1 E O _ hm1) (memT 1 E O _ hm2) (memT 1 E O _ GI) (memT 1 E O _ MW) Y) ?_;rintro _ anu ⟨rfl,JJ,JK,OD,hf',S9⟩;refine⟨_,E,?_⟩;refine zQ ?_;refine bU (l':=[]) trivial (dF (oD (ig (dX (rs:=[]) (vs:=[]) E trivial ?_))));have J:X.up=true:=by assumption
  subst hf';rw[nH hX J hp];exact⟨E,Wd.dP (X':=X.jC.aA q M.b) (z':={z with tA:=ah2,tc:=aow,pv:=.nilFunc,bx:=z.bx.set q M}) (Ls:=[.cK 1 ah2 X.data.length (byteCells X.data)]) (fA:=JJ) (fc:=JK) (fx:=_) (sA:=R.sA) (sc:=R.sc) (tA:=R.tA) (tc:=R.tc) Z iC hrr G hn S9 (NG.Iw hq (dB:=M) (λf hf=>mem_append_left _ hf) (mem_append_right _ (mem_singleton.2 E)) I) (oW (iW E)) E (by rw[map_append,G.fly];rfl) mI⟩
 ·rw[hp]at hpn;obtain⟨b1,b2,b3,b4,b5,M,x,hpf,hm1,he,I,hm2,GI,MW,hla,TU⟩:=hpn;subst hpf;subst he;subst hla;have hq:q<4:=hft;obtain⟨y,hy,hyb,qD⟩:=NG.at_ hq;refine zN 5 ?_;refine vv (v:=.bool true) (bC E E E xu) ?_;refine zN 9 ?_;refine vv (au E E (dS (cs:=[.slice z.tA X.data.length z.tc,D X.syn]) (St.rg 0 S E (rV)))) ?_;have FY:=λw h=>Bg (pF z.tA X.data.length z.tc X.data X.syn w h);rw[yt htm]at FY;refine dO eQ (FY _ (NG.xV.rd S (memT 7 E O))) ?_;rintro _ anG ⟨Xn,c124,rfl,aC6⟩;refine⟨_,E,?_⟩;have xM:=S.ext aC6 E;refine zN 5 ?_;refine jF (row':=dM n X.up (.slice Xn X.data.length c124) ((X.data.length:Nat):Int) (.slice (aD z.bb 0) 4 4) X.hints X.sure (.slice z.iA z.ix.length z.ic) (.func (.func 96) #[] #[gP b1,gP b2,gP b3,gP b4,gP b5]) X.turn) 1 xM kQ ?_;intro aAq zU;refine zN 16 ?_;refine jF (row':=dM n X.up (.slice Xn X.data.length c124) ((X.data.length:Nat):Int) (.slice (aD z.bb 0) 4 4) X.hints X.sure (.slice z.iA z.ix.length z.ic) (.nilFunc) X.turn) 1 zU kQ ?_;intro anN yN;refine zN 5 ?_;have yH:=yN.eG [7,7,7,7,7,7,7];refine wh eQ (YP hn hq hy yH (memT 1 E O _ hm1) (memT 1 E O _ hm2) (memT 1 E O _ GI) (memT 1 E O _ MW) (memT 1 E O _ TU) Y Y) ?_;rintro _ abd ⟨rfl,hd1,hd2⟩;refine⟨_,E,?_⟩;refine zQ ?_;refine bU (l':=[]) trivial (dF (oD (ig (dX (rs:=[]) (vs:=[]) E trivial ?_))));have J:X.up=true:=by assumption
  cases hla:x.l.last
  ·obtain⟨JJ,JK,OD,h2,S9⟩:=hd2 hla;subst h2;rw[rX hX J (by rw[hp,hla])];exact⟨E,Wd.dP (X':=X.jC.aA q M.b) (z':={z with tA:=Xn,tc:=c124,pv:=.nilFunc,bx:=z.bx.set q M}) (Ls:=[.cK 1 Xn X.data.length (byteCells X.data)]) (fA:=JJ) (fc:=JK) (fx:=_) (sA:=R.sA) (sc:=R.sc) (tA:=R.tA) (tc:=R.tc) Z iC hrr G hn S9 (NG.Iw hq (dB:=M) (λf hf=>mem_append_left _ hf) (mem_append_right _ (mem_singleton.2 E)) I) (oW (iW E)) E (by rw[map_append,G.fly];rfl) mI⟩
  obtain⟨sA',sc',sv',h1,S9⟩:=hd1 hla;subst h1;rw[jT hX J (by rw[hp,hla])];exact⟨E,Wd.dP (X':={ (X.jC.aA q M.b)with sure:=upd X.sure q false}) (z':={z with tA:=Xn,tc:=c124,pv:=.nilFunc,bx:=z.bx.set q M}) (Ls:=[.cK 1 Xn X.data.length (byteCells X.data)]) (fA:=R.fA) (fc:=R.fc) (fx:=R.fx) (sA:=sA') (sc:=sc') (tA:=R.tA) (tc:=R.tc) Z iC hrr G hn S9 (dY.hear (NG.Iw hq (dB:=M) (λf hf=>mem_append_left _ hf) (mem_append_right _ (mem_singleton.2 E)) I)) (λu hu=>.inl hu) E G.fly.symm mI⟩
 ·rw[hp]at hpn;obtain⟨b1,b2,b3,b4,b5,M,x,hpf,hm1,he,I,hm2,GI,MW,TU,hla⟩:=hpn;subst hpf;subst he;subst hla;have hq:q<4:=hft.1;obtain⟨y,hy,hyb,qD⟩:=NG.at_ hq;refine zN 5 ?_;refine vv (v:=.bool true) (bC E E E xu) ?_;refine zN 9 ?_;refine vv (au E E (dS (cs:=[.slice z.tA X.data.length z.tc,D X.syn]) (St.rg 0 S E (rV)))) ?_;have FY:=λw h=>Bg (pF z.tA X.data.length z.tc X.data X.syn w h);rw[yt htm]at FY;refine dO eQ (FY _ (NG.xV.rd S (memT 7 E O))) ?_;rintro _ abp ⟨ah3,aox,rfl,an8⟩;refine⟨_,E,?_⟩;have ED:=S.ext an8 E;refine zN 5 ?_;refine jF (row':=dM n X.up (.slice ah3 X.data.length aox) ((X.data.length:Nat):Int) (.slice (aD z.bb 0) 4 4) X.hints X.sure (.slice z.iA z.ix.length z.ic) (.func (.func 94) #[] #[gP b1,gP b2,gP b3,gP b4,gP b5]) X.turn) 1 ED kQ ?_;intro azw Gs;refine zN 16 ?_;refine jF (row':=dM n X.up (.slice ah3 X.data.length aox) ((X.data.length:Nat):Int) (.slice (aD z.bb 0) 4 4) X.hints X.sure (.slice z.iA z.ix.length z.ic) (.nilFunc) X.turn) 1 Gs kQ ?_;intro atB IV;refine zN 5 ?_;have WQ:=IV.eG [7,7,7,7,7,7,7];have aKO:=kF (jB hft.2);have aoe:M.b.evs.length*48<=reachBytes:=by unfold reachBytes;omega
  have acG:=xq hft.2;refine wh eQ (Vr (L:=R.L) hn hq hy WQ (memT 1 E O _ hm1) (memT 1 E O _ hm2) (memT 1 E O _ GI) (memT 1 E O _ MW) (memT 1 E O _ TU) I (memT 1 E O) aoe acG Y) ?_;rintro _ ahH ⟨rfl,JJ,JK,OD,N,hf',hx',S9⟩;refine⟨_,E,?_⟩;refine zQ ?_;refine bU (l':=[]) trivial (dF (oD (ig (dX (rs:=[]) (vs:=[]) E trivial ?_))));have J:X.up=true:=by assumption
  rw[pU hX J hp];exact⟨E,Wd.fin (X':=X.jC.aA q M.b) (z':={z with tA:=ah3,tc:=aox,pv:=.nilFunc,bx:=z.bx.set q M}) (N:=N) (Ls:=[.cK 1 ah3 X.data.length (byteCells X.data)]) (fA:=JJ) (fc:=JK) (fx:=OD) (sA:=R.sA) (sc:=R.sc) (tA:=R.tA) (tc:=R.tc) Z iC hrr G hn S9 (NG.Iw hq (dB:=M) (λf hf=>mem_append_left _ hf) (mem_append_right _ (mem_append_right _ (mem_singleton.2 E))) I) (λu hu=>(hx' u hu).imp id λh=>h.mono λf hf=>mem_append_right _ (mem_append_left _ hf)) E (by rw[hf',G.fly]) mI⟩
 rw[hp]at hpn;obtain⟨b1,b2,b3,M,hpf,hm1,he,I,hm2,GI⟩:=hpn;subst hpf;subst he;have hq:q<4:=hft;obtain⟨y,hy,hyb,qD⟩:=NG.at_ hq;refine zN 5 ?_;refine vv (v:=.bool true) (bC E E E xu) ?_;refine zN 9 ?_;refine vv (au E E (dS (cs:=[.slice z.tA X.data.length z.tc,D X.syn]) (St.rg 0 S E (rV)))) ?_;have FY:=λw h=>Bg (pF z.tA X.data.length z.tc X.data X.syn w h);rw[yt htm]at FY;refine dO eQ (FY _ (NG.xV.rd S (memT 7 E O))) ?_;rintro _ asM ⟨R4,c146,rfl,aC7⟩;refine⟨_,E,?_⟩;have NR:=S.ext aC7 E;refine zN 5 ?_;refine jF (row':=dM n X.up (.slice R4 X.data.length c146) ((X.data.length:Nat):Int) (.slice (aD z.bb 0) 4 4) X.hints X.sure (.slice z.iA z.ix.length z.ic) (.func (.func 98) #[] #[gP b1,gP b2,gP b3]) X.turn) 1 NR kQ ?_;intro asz NS;refine zN 16 ?_;refine jF (row':=dM n X.up (.slice R4 X.data.length c146) ((X.data.length:Nat):Int) (.slice (aD z.bb 0) 4 4) X.hints X.sure (.slice z.iA z.ix.length z.ic) (.nilFunc) X.turn) 1 NS kQ ?_;intro aKP aoy;refine zN 5 ?_;have Mf:=aoy.eG [7,7,7,7,7,7,7];refine wh eQ (Nf hn hq hy Mf (memT 1 E O _ hm1) (memT 1 E O _ hm2) (memT 1 E O _ GI)) ?_;rintro _ aBA ⟨rfl,S9⟩;refine⟨_,E,?_⟩;refine zQ ?_;refine bU (l':=[]) trivial (dF (oD (ig (dX (rs:=[]) (vs:=[]) E trivial ?_))));have J:X.up=true:=by assumption
 rw[lY hX J hp];exact⟨E,Wd.dP (X':=X.jC.aA q M.b) (z':={z with tA:=R4,tc:=c146,pv:=.nilFunc,bx:=z.bx.set q M}) (Ls:=[.cK 1 R4 X.data.length (byteCells X.data)]) (fA:=R.fA) (fc:=R.fc) (fx:=R.fx) (sA:=R.sA) (sc:=R.sc) (tA:=R.tA) (tc:=R.tc) Z iC hrr G hn S9 (NG.Iw hq (dB:=M) (λf hf=>mem_append_left _ hf) (mem_append_right _ (mem_singleton.2 E)) I) (λu hu=>.inl hu) E G.fly.symm mI⟩
def nL {L i:Nat}(h:i<L):(range L).drop i=i::(range L).drop (i+1):=by
 rw[drop_eq_getElem_cons (by rw[length_range];exact h),getElem_range]
def kN {P:Program}{w:World}{t e:TypeId}{A:Option Addr}{b off n c s:Nat}{i:Int}{kd:IntKind}(k:Nat)(I:A=some ⟨b,off,none⟩)(J:P.underlying t=some (.slice e))(M:(P.info? e).map (·.size)=some s)(h:i=k)(O:k<n):
  (Instr.indexAt t (.slice A n c) (.int kd i)).run P w=.ok (pV b (off+k*s)) w:=by
 subst I;exact vX k J M h O
section
variable {L fs:List Fact}{B n s:Nat}{w0 w:World}{A:Option Addr}{xs:List Value}{b o k:Nat}{u:Value}
def rd_some {z:Nat}(h:Rd w z s A n xs)(hn:0<n):∃b o,A=some ⟨b,o,none⟩:=by
 obtain⟨b,o,e,_⟩:=h.2 hn;exact⟨b,o,e⟩
def En (h:Ro L s A n xs)(S:St B w0 w fs)(I:∀f∈L,f∈fs)(hn:0<n):∃b o,A=some ⟨b,o,none⟩:=rd_some (h.rd S I) hn
def Jl {z:Nat}(h:Rd w z s A n xs)(M:A=some ⟨b,o,none⟩)(I:xs[k]? =some u):w.cell? ⟨b,o+k,none⟩=some u:=by
 have hn:0<n:=by
  rcases eq_zero_or_pos n with J|J
  ·have:=h.1;rw[J,Nat.zero_mul]at this;rw[length_eq_zero_iff.1 this]at I;simp at I
  exact J
 obtain⟨b',Z,e,_,O⟩:=h.2 hn;rw[M]at e
 cases e;exact O k u I
def yu (h:Ro L s A n xs)(I:A=some ⟨b,o,none⟩)(S:St B w0 w fs)(J:∀f∈L,f∈fs)(M:xs[k]? =some u):w.cell? ⟨b,o+k,none⟩=some u:=Jl (h.rd S J) I M
end
section
variable {m mm:Cl}{n q F0:Nat}{e:Ev}{a:iR}{u:Int}{b:aQ}
def O8 (h:mm={m with aV:=mm.aV,shown:=mm.shown}):mm.tell n q e a u={m with aV:=(mm.tell n q e a u).aV,shown:=(mm.tell n q e a u).shown}:=by
 have h1:=congrArg Cl.ah h;have I:=congrArg Cl.off h;have J:=congrArg Cl.fly h;have M:=congrArg Cl.bK h;have O:=congrArg Cl.calls h;unfold Cl.tell;simp only[Cl.mk.injEq];exact⟨h1,I,J,trivial,trivial,M,O⟩
def Vw (I:(m.ah n).bs q=b)(h:¬(m.shown n q).1=b.ep):m.recover n q={m with aV:=m.aV++[⟨n,q,b.ep,aF,eT,-1⟩],shown:=iw m.shown n q (b.ep,(b.evs.length:Int))}:=by
 subst I;unfold Cl.recover;rw[if_pos h];rfl
def Vx (I:(m.ah n).bs q=b)(h:(m.shown n q).1=b.ep)(J:(m.shown n q).2=((F0:Nat):Int)):m.recover n q=m.recovered n q b.evs (ay b.evs).2.1 ((range b.evs.length).drop F0):=by
 subst I;unfold Cl.recover;rw[if_neg (λe=>e h),J,Int.toNat_natCast]
end
def JQ {K:CK} {B n kn kw:Nat} {w0 w:World} {fs:List Fact} {m:Cl} {H:List LX} {q:Nat} (hn:n<5) (hkn:K.nb n=kn) (iC:K.wb=kw) (hu:Uk B w0) (hB1:m.fly.length<=1000000000) (hB2:m.aV.length<=1000000000000) (hq:q<4) (HW:Wd K B w0 w fs m H) (hv: ∀ q,q<4->aj ((m.ah n).bs q)=0) (hsh:0<=(m.shown n q).2):
    Calls tP 55 #[pV kw 0,pV kn 0,D ((q:Nat):Int)] w (λe w'=>e=.returned (.tuple #[])/\Wd K B w0 w' fs (m.recover n q) H):=by
 obtain⟨R,G,S0⟩:=HW.open hn;have hfl:R.fx.length=m.fly.length:=by rw[<-G.fly,length_map]
 have NG:=G.iE n hn;obtain⟨X,hX⟩:∃X,m.ah n=X:=⟨_,E⟩;obtain⟨z,hz⟩:∃z,R.nx n=z:=⟨_,E⟩;rw[hX,hz]at S0 NG;have hL:∀f∈R.L,f∈gD K R m fs n:=λf h=>mem_append_right _ (mem_append_right _ h);obtain⟨rr,hrr⟩:∃r,gD K R m fs n=r:=⟨_,E⟩;rw[hrr]at S0 hL;have S:St B w0 w (cN kn n X z z.pv (cF kw R m rr)):=by subst hkn;subst iC;exact S0
 clear S0 HW;have hlen:=(S.own 1 E).1;rw[iG (sz:=6) (λ_=>E)]at hlen;rw[hX]at hv;obtain⟨y,hy,hyb,qD⟩:=NG.at_ hq;have hln:=kF (jB (hyb▸hv _ hq));have yX:y.b.evs.length*48<=reachBytes:=by unfold reachBytes;omega
 have Me:=xq (hyb▸hv _ hq);obtain⟨F0,hF0⟩:∃F0:Nat,(m.shown n q).2=((F0:Nat):Int):=⟨_,(Int.toNat_of_nonneg hsh).symm⟩;have hle:y.b.evs.length<=1152921504606846976:=Y;have hal:(ay y.b.evs).2.1.length=y.b.evs.length:=Oy (jB (hyb▸hv _ hq));refine gK 68 func55 ?_;refine cw [0,1,2] ?_;refine zN 7 ?_;refine vv (kZ q) ?_;refine vv (au E E (dS (cs:=BX.cells y) (Rd.yB (St.ord 1 S E) (λ_ _ h=>dh (enc:=BX.cells) (sz:=6) (λ_=>E) hy h)))) ?_;refine gB S gu ?_;intro b1 w2 S3;refine sa 0 S3 kQ ?_;intro w4 S5;refine zN 3 ?_;have S6:=S5.drew;refine fK 13 12 S6 [] ?_;iterate 8 refine gU ?_
 refine gk (v:=pV kw (10+n*8)) 8 E S6 (λ_ _=>(bJ E E E (fE n underlying95 kQ E hn))) ?_;refine gk (v:=pV kw (10+n*8+q*2)) 9 E S6 (λ_ _=>(bJ E E E (fE q underlying94 kQ E hq))) ?_;refine gk (v:=.agg #[D ((m.shown n q).1),D ((m.shown n q).2)]) 10 E S6 (λ_ aC8=>(au E E (dS (cs:=[D ((m.shown n q).1),D ((m.shown n q).2)]) (St.rg 4 aC8 E (awd hn hq))))) ?_;refine fC (m:=1) (r:=11) kQ ?_;refine mQ (i:=11) E E (V:=λb=>pV b 0) (row:= #[D 0,D 0]) (t:=93) S6 (wn E) E E (iM E (zeroValue93 _) E) ?_;intro b18 Gn pK;refine gU ?_;refine fu kQ E E E ?_;refine sa 0 pK kQ ?_;intro Fq jX;refine zQ ?_;refine iX ?_;refine zN 8 ?_;by_cases h23:(m.shown n q).1=y.b.ep
 ·refine zN 10 ?_;refine dO eQ (M6 y.A y.c y.b.evs _ (qD.1.rd jX (memT 9 E hL)) hle) ?_;rintro _ NP ⟨A24,c25,rfl,T28⟩;refine⟨_,E,?_⟩;have tT:=jX.ext T28 E;refine zN 10 ?_;refine vv (v:=D ((F0:Nat):Int)) (Cb hF0 (au E E (aK (St.cl 1 tT E E)))) ?_;refine zN 4 ?_;have uD:=tT.eG [9,9,9,9,9,9,9];refine fO (X:=Cl×(Option Addr)×Nat×Nat) (λxv=>[(0,pV kw 0),(1,pV kn 0),(2,D ((q:Nat):Int)),(6,pV b1 0),(8,.slice A24 ((ay y.b.evs).2.1.length) c25),(10,D ((xv.2.2.2:Nat):Int))]) (λxv wr=>(m.recovered n q y.b.evs (ay y.b.evs).2.1 ((range y.b.evs.length).drop F0)=xv.1.recovered n q y.b.evs (ay y.b.evs).2.1 ((range y.b.evs.length).drop xv.2.2.2))/\(xv.1={m with aV:=xv.1.aV,shown:=xv.1.shown})/\(xv.1.aV.length+(y.b.evs.length-xv.2.2.2)<=1000000002001)/\St B w0 wr (cN kn n X z z.pv (wF kw (.slice R.nA 5 R.nc) m.off R.fA R.fx R.fc xv.1.shown xv.2.1 xv.1.aV xv.2.2.1 R.tA m.bK R.tc m.calls ((.cK 4 A24 ((ay y.b.evs).2.1.length) (((ay y.b.evs).2.1).flatMap iR.cells))::(.blk b18 #[D ((m.shown n q).1),D ((m.shown n q).2)] 93)::(.blk b1 (bR y.b y.A y.c) 42)::rr)))) (λxv=>y.b.evs.length-xv.2.2.2) (m,R.sA,R.sc,F0) ?_ ?_ ?_
  ·exact⟨E,E,uQ,uD⟩
  ·exact rO
  rintro⟨mm,A9,c9,I⟩ Zt ⟨IQ,M,Sj,qB⟩
  try dsimp only at IQ M Sj qB
  refine bH (l':=[(0,pV kw 0),(1,pV kn 0),(2,D ((q:Nat):Int)),(6,pV b1 0),(8,.slice A24 ((ay y.b.evs).2.1.length) c25),(10,D ((I:Nat):Int))]) rO (aM (aM (av (vm ?_))));refine zN 3 ?_;by_cases h35:((I:Nat):Int)< ((y.b.evs.length:Nat):Int)
  ·refine zN 8 ?_;obtain⟨e,he⟩:∃e,y.b.evs[I]? =some e:=⟨_,getElem?_eq_getElem Y⟩;obtain⟨a,ha⟩:∃a,(ay y.b.evs).2.1[I]? =some a:=⟨_,getElem?_eq_getElem Y⟩;have hee:y.b.evs.getD I aH=e:=by rw[getD_eq_getElem?_getD,he];rfl
   have haa:(ay y.b.evs).2.1.getD I eT=a:=by rw[getD_eq_getElem?_getD,ha];rfl
   obtain⟨rb,ro,hra⟩:=En qD.1 qB (memT 10 E hL) Y;obtain⟨sb,so,hsa⟩:=rd_some (St.cK 7 qB E) Y;have O:=qB.drew;refine aJ 13 O [5,3] ?_;refine aL 6 ?_;refine ak (v:=pV rb (ro+I*6)) 6 E (O.oU [5,3]) (λ_ _=>(bJ E E E (kN I hra underlying40 kQ Y Y))) ?_;refine aL 2 ?_;refine ak (v:=pV sb (so+I*4)) 10 E (O.oU [5,3]) (λ_ _=>(bJ E E E (kN I hsa underlying160 kQ Y Y))) ?_;refine iB (n:=2) (r:=7) (s:=11) kQ ?_ ?_
   ·refine je (i:=7) E E (v:=.agg #[D ((y.b.evs.getD I aH).kind),D ((y.b.evs.getD I aH).producer),D ((y.b.evs.getD I aH).id),D ((y.b.evs.getD I aH).body),D ((y.b.evs.getD I aH).aN),D ((y.b.evs.getD I aH).hno)]) (wn E) E E (au E E (dS (cs:=Ev.cells (y.b.evs.getD I aH)) (λj u hu=>by rw[Nat.add_assoc];rw[hee]at hu;exact yu qD.1 hra O (memT 10 E hL) (dh (enc:=Ev.cells) (sz:=6) (k:=I) (λ_=>E) he hu)))) ?_;refine dR ?_;refine aY 11 ?_;refine je (i:=11) E E (v:=.agg #[D (((ay y.b.evs).2.1.getD I eT).code),D (((ay y.b.evs).2.1.getD I eT).fG),D (((ay y.b.evs).2.1.getD I eT).hno),D (((ay y.b.evs).2.1.getD I eT).body)]) (wn E) E E (au E E (dS (cs:=iR.cells ((ay y.b.evs).2.1.getD I eT)) (λj u hu=>by rw[Nat.add_assoc];rw[haa]at hu;exact Jl (St.cK 7 O E) hsa (dh (enc:=iR.cells) (sz:=4) (k:=I) (λ_=>E) ha hu)))) ?_;refine dR ?_;refine aY 12 ?_;refine kD 12 E eQ (nP hn hq hy (y.b.evs.getD I aH) ((ay y.b.evs).2.1.getD I eT) (-1) O (by have:=Sj;omega)) ?_;rintro _ w51 ⟨rfl,MU,c48,an5,ahX,o8⟩;refine⟨_,E,?_⟩;refine aL 2 ?_;refine zN 4 ?_;refine vv (v:=D ((I+1:Nat):Int)) jc ?_;refine zN 2 ?_;obtain⟨Z,J⟩:∃k,k=mm.tell n q (y.b.evs.getD I aH) ((ay y.b.evs).2.1.getD I eT) (-1):=⟨_,E⟩;have hmb:(mm.ah n).bs q=y.b:=by rw[congrArg Cl.ah M,hX];exact hyb.symm
    have t1:Z.aV=an5:=by rw[ahX,J];show mm.aV++[_]=_;rw[hmb]
    have t2:Z.shown=iw mm.shown n q (y.b.ep,(y.b.evs.length:Int)):=by rw[J];show iw _ _ _ _=_;rw[hmb]
    have t3:Z.aV.length=mm.aV.length+1:=by rw[t1,ahX,length_append];rfl
    rw[<-t1,<-t2]at o8;refine bQ (Z,MU,c48,I+1) ?_ rO (by first|omega|(dsimp only;omega));exact⟨(by dsimp only;rw[IQ,nL Y,Cl.recovered,<-J]),(by dsimp only;rw[J];exact O8 M),uQ,o8⟩
   refine je (i:=11) E E (v:=.agg #[D (((ay y.b.evs).2.1.getD I eT).code),D (((ay y.b.evs).2.1.getD I eT).fG),D (((ay y.b.evs).2.1.getD I eT).hno),D (((ay y.b.evs).2.1.getD I eT).body)]) (wn E) E E (au E E (dS (cs:=iR.cells ((ay y.b.evs).2.1.getD I eT)) (λj u hu=>by rw[Nat.add_assoc];rw[haa]at hu;exact Jl (St.cK 7 O E) hsa (dh (enc:=iR.cells) (sz:=4) (k:=I) (λ_=>E) ha hu)))) ?_;refine dR ?_;refine aY 7 ?_;refine je (i:=7) E E (v:=.agg #[D ((y.b.evs.getD I aH).kind),D ((y.b.evs.getD I aH).producer),D ((y.b.evs.getD I aH).id),D ((y.b.evs.getD I aH).body),D ((y.b.evs.getD I aH).aN),D ((y.b.evs.getD I aH).hno)]) (wn E) E E (au E E (dS (cs:=Ev.cells (y.b.evs.getD I aH)) (λj u hu=>by rw[Nat.add_assoc];rw[hee]at hu;exact yu qD.1 hra O (memT 10 E hL) (dh (enc:=Ev.cells) (sz:=6) (k:=I) (λ_=>E) he hu)))) ?_;refine dR ?_;refine aY 12 ?_;refine kD 12 E eQ (nP hn hq hy (y.b.evs.getD I aH) ((ay y.b.evs).2.1.getD I eT) (-1) O (by have:=Sj;omega)) ?_;rintro _ w57 ⟨rfl,A53,c54,aC9,auN,Du⟩;refine⟨_,E,?_⟩;refine aL 2 ?_;refine zN 4 ?_;refine vv (v:=D ((I+1:Nat):Int)) jc ?_;refine zN 2 ?_;obtain⟨Z,J⟩:∃k,k=mm.tell n q (y.b.evs.getD I aH) ((ay y.b.evs).2.1.getD I eT) (-1):=⟨_,E⟩;have hmb:(mm.ah n).bs q=y.b:=by rw[congrArg Cl.ah M,hX];exact hyb.symm
   have t1:Z.aV=aC9:=by rw[auN,J];show mm.aV++[_]=_;rw[hmb]
   have t2:Z.shown=iw mm.shown n q (y.b.ep,(y.b.evs.length:Int)):=by rw[J];show iw _ _ _ _=_;rw[hmb]
   have t3:Z.aV.length=mm.aV.length+1:=by rw[t1,auN,length_append];rfl
   rw[<-t1,<-t2]at Du;refine bQ (Z,A53,c54,I+1) ?_ rO (by first|omega|(dsimp only;omega));exact⟨(by dsimp only;rw[IQ,nL Y,Cl.recovered,<-J]),(by dsimp only;rw[J];exact O8 M),uQ,Du⟩
  refine zN 9 ?_;have zl:m.recover n q={m with aV:=mm.aV,shown:=mm.shown}:=by rw[Vx (b:=y.b) (by rw[hX];exact hyb.symm) (by first|assumption|omega) hF0,IQ,drop_eq_nil_of_le (by rw[length_range];omega),Cl.recovered];exact M
  rw[zl];exact⟨E,Wd.dP (X':=X) (z':=z) (Ls:=[.cK 4 A24 ((ay y.b.evs).2.1.length) (((ay y.b.evs).2.1).flatMap iR.cells),.blk b18 #[D ((m.shown n q).1),D ((m.shown n q).2)] 93,.blk b1 (bR y.b y.A y.c) 42]) (fA:=R.fA) (fc:=R.fc) (fx:=R.fx) (sA:=A9) (sc:=c9) (tA:=R.tA) (tc:=R.tc) hkn iC hrr G hn qB NG.more (λu hu=>.inl hu) (aC hX).symm G.fly.symm mI⟩
 refine zN 9 ?_;refine vv (v:=.agg #[D 4,D 0,D 0,D 0,D 0,D 0]) gG ?_;refine zQ ?_;have BJ:=jX.eG [8,8,8,8,8,8,8];refine dO eQ (nP hn hq hy aF eT (-1) BJ Y) ?_;rintro _ w64 ⟨rfl,A60,c61,aKQ,aDa,Gx⟩;refine⟨_,E,?_⟩;refine zQ ?_;refine bU (l':=[]) trivial (dF (oD (ig (dX (rs:=[]) (vs:=[]) E trivial ?_))));subst aDa;have zl:m.recover n q={m with aV:=m.aV++[⟨n,q,y.b.ep,aF,eT,-1⟩],shown:=iw m.shown n q (y.b.ep,(y.b.evs.length:Int))}:=Vw (b:=y.b) (by rw[hX];exact hyb.symm) ‹_›;rw[zl];exact⟨E,Wd.dP (X':=X) (z':=z) (Ls:=[.blk b18 #[D ((m.shown n q).1),D ((m.shown n q).2)] 93,.blk b1 (bR y.b y.A y.c) 42]) (fA:=R.fA) (fc:=R.fc) (fx:=R.fx) (sA:=A60) (sc:=c61) (tA:=R.tA) (tc:=R.tc) hkn iC hrr G hn Gx NG.more (λu hu=>.inl hu) (aC hX).symm G.fly.symm mI⟩
section
variable {K:CK}{L L':List Fact}{m:Cl}{n q c:Nat}{X:Nd}{z:NX}{v:Value}{FD:Dir×Int}{BR:aQ×Int}{A:Option Addr}{dB:BX}{d:List UInt8}
def dY.pv_ (h:dY K L n X z)(hv:z.pv=v):dY K L n X {z with pv:=v}:=by
 subst hv;exact h
def dY.awU (h:dY K L n X z)(M:X.pend=none)(O:q<4)(I:∀f∈L,f∈L')(Z: .cK 1 A d.length (byteCells d)∈L')(hY:BS L' dB):
  dY K L' n {X with data:=d,syn:=((d.length:Nat):Int),bs:=upd X.bs q dB.b} {z with tA:=A,tc:=c,pv:=.nilFunc,bx:=z.bx.set q dB}:=
 ⟨Jc h.Rn O,Ej (λu J=>(h.Tv u J).mono I) hY,Ro.cK Z,h.ixm,λu J=>(h.ixo u J).mono I,by show p9 _ _ _ X.pend _;rw[M];rfl⟩
def ac9 (h:(m.ah n).up=false):m.make n q=m:=by unfold Cl.make;rw[if_pos (.inl h)]
def ada (h:(m.ah n).pend.isSome=true):m.make n q=m:=by unfold Cl.make;rw[if_pos (.inr (.inl h))]
def ag4 (I:rU m.off q n=FD)(h:¬FD.2=0):m.make n q=m:=by unfold Cl.make;rw[if_pos (.inr (.inr (by rw[I];exact h)))]
def ag5 (I:iT ((m.ah n).bs q) 1=BR)(h:¬BR.2=0):m.make n q=m:=by
 unfold Cl.make
 split
 ·rfl
 rw[I,if_pos h]
def adb (h:m.ah n=X)(I:iT (X.bs q) 1=BR)(hw:fB X.data X.syn [fH 1 q BR.1.ep 0 aH]=none):m.make n q=m:=by
 subst h;subst I;unfold Cl.make Nd.write
 split
 ·rfl
 split
 ·rfl
 rw[hw];rfl
def ag6 (h:m.ah n=X)(I:X.up=true)(J:X.pend=none)(M:rU m.off q n=FD)(O:FD.2=0)(Z:iT (X.bs q) 1=BR)(hb:BR.2=0)(hw:fB X.data X.syn [fH 1 q BR.1.ep 0 aH]=some d):
  m.make n q={m.put n {X with data:=d,syn:=((d.length:Nat):Int),bs:=upd X.bs q BR.1}with off:=FD.1,shown:=iw m.shown n q (1,0)}:=by
 subst h;subst Z;subst M;unfold Cl.make Nd.write;rw[I,J,if_neg (by simp[O]),if_neg (λe=>e hb),hw];rfl
end
def YS {K:CK} {B n kn kw:Nat} {w0 w:World} {fs:List Fact} {m:Cl} {H:List LX} {q:Nat} (hn:n<5) (hkn:K.nb n=kn) (iC:K.wb=kw) (hu:Uk B w0) (hB1:m.fly.length<=1000000000) (hB2:m.aV.length<=1000000000000) (hq:q<4) (HW:Wd K B w0 w fs m H) (hv: ∀ q,q<4->aj ((m.ah n).bs q)=0) (hmay: ∀ rs d,fB (m.ah n).data (m.ah n).syn rs=some d->dw d (m.ah n).syn=true):
    Calls tP 31 #[pV kw 0,pV kn 0,D ((q:Nat):Int)] w (λe w'=>e=.returned (.tuple #[])/\Wd K B w0 w' fs (m.make n q) H):=by
 obtain⟨R,G,S0⟩:=HW.open hn;have hfl:R.fx.length=m.fly.length:=by rw[<-G.fly,length_map]
 have NG:=G.iE n hn;obtain⟨X,hX⟩:∃X,m.ah n=X:=⟨_,E⟩;obtain⟨z,hz⟩:∃z,R.nx n=z:=⟨_,E⟩;rw[hX,hz]at S0 NG;have hL:∀f∈R.L,f∈gD K R m fs n:=λf h=>mem_append_right _ (mem_append_right _ h);obtain⟨rr,hrr⟩:∃r,gD K R m fs n=r:=⟨_,E⟩;rw[hrr]at S0 hL;obtain⟨pv0,M⟩:∃v,z.pv=v:=⟨_,E⟩;have S:St B w0 w (cN kn n X z pv0 (cF kw R m rr)):=by rw[<-M];subst hkn;subst iC;exact S0
 clear S0 HW;have hlen:=(S.own 1 E).1;rw[iG (sz:=6) (λ_=>E)]at hlen;rw[hX]at hv;obtain⟨y,hy,hyb,qD⟩:=NG.at_ hq;have hln:=kF (jB (hyb▸hv _ hq));have yX:y.b.evs.length*48<=reachBytes:=by unfold reachBytes;omega
 have Me:=xq (hyb▸hv _ hq);refine gK 93 func31 ?_;refine bH (l':=[(0,pV kw 0),(1,pV kn 0),(2,D ((q:Nat):Int))]) Fb ?_;obtain⟨FD,JM⟩:∃r,rU m.off q n=r:=⟨_,E⟩;have HF:=λw h=>Vp m.off q n w h;rw[JM]at HF;refine ny (X:=Nat) (λxv=>[(0,pV kw 0),(1,pV kn 0),(2,D ((q:Nat):Int)),(6,pV xv 0),(7,D FD.2)]) (λxv wr=>St B w0 wr ((.blk xv (((FD.1).cells).toArray) 30)::(cN kn n X z pv0 (cF kw R m rr)))) ?_ ?_
 ·have S1:=S.drew;refine IB (C:=λw'=>St B w0 w' (cN kn n X z pv0 (cF kw R m rr))) (n:=16) (listed:= #[false,false,false,false,false,false,false,false,false,false,false,false,false,false,false,false]) mixed E E ?_;refine aL 3 ?_;refine ak (v:=.agg ((m.off.cells).toArray)) 3 E S1 (λ_ Sx5=>(au E E (dS (cs:=(m.off.cells)) (St.rg 3 Sx5 E (xU))))) ?_;refine aL 5 ?_;refine iB (n:=6) (r:=9) (s:=13) kQ ?_ ?_
  ·refine kD 9 E eQ (HF _ (Uk.nw hu S1)) ?_;rintro _ Ht ⟨rfl,aDb⟩;refine⟨_,E,?_⟩;have oF:=S1.on aDb;refine aL 4 ?_;refine aY 13 ?_;refine lU 13 E oF ahC ?_;intro b17 MO uz;refine dR ?_;refine aY 14 ?_;refine snA 14 E 0 uz kQ ?_ (h1:=vM _);intro Zz uV;refine aL 3 ?_;refine dL b17 ?_ zZ;exact uV
  refine lU 13 E S1 ahC ?_;intro Ao NU lC;refine dR ?_;refine aY 9 ?_;refine kD 9 E eQ (HF _ (Uk.nw hu lC)) ?_;rintro _ NP ⟨rfl,ahW⟩;refine⟨_,E,?_⟩;have tT:=lC.on ahW;refine aL 4 ?_;refine aY 14 ?_;refine snA 14 E 0 tT kQ ?_ (h1:=vM _);intro w32 tX;refine aL 3 ?_;refine dL Ao ?_ zZ;exact tX
 rintro b35 w36 O
 try dsimp only at O
 refine bH (l':=[(0,pV kw 0),(1,pV kn 0),(2,D ((q:Nat):Int)),(6,pV b35 0),(7,D FD.2)]) zZ (aM (aM ?_));have hpn:=NG.lF;change p9 (K.nb n) K.wb _ _ _ at hpn;rw[hkn,iC,M]at hpn
 rcases hup:X.up with _|_
 ·refine zN 4 ?_;refine vv (v:=.bool false) (OO hup (au E E (aK (St.cl 1 O E E)))) ?_;refine zN 18 ?_;have yC:=O.eG [7,7,7,7,7,7,7];have zl:m.make n q=m:=ac9 (by rw[hX];exact hup);rw[zl];exact⟨E,Wd.dP (X':=X) (z':={z with pv:=pv0}) (Ls:=[.blk b35 (((FD.1).cells).toArray) 30]) (fA:=R.fA) (fc:=R.fc) (fx:=R.fx) (sA:=R.sA) (sc:=R.sc) (tA:=R.tA) (tc:=R.tc) hkn iC hrr G hn yC (NG.more.pv_ M) (λu hu=>.inl hu) (aC hX).symm G.fly.symm mI⟩
 rcases hp:X.pend with _|p
 ·rw[hp]at hpn;have hpf:pv0=.nilFunc:=hpn;subst hpf;by_cases hF:FD.2=0
  ·refine zN 4 ?_;refine vv (v:=.bool true) (OO hup (au E E (aK (St.cl 1 O E E)))) ?_;refine zN 6 ?_;refine vg (v:=.bool false) (bC E E E Ki) ?_;refine zN 11 ?_;obtain⟨BR,qE⟩:∃r,iT y.b 1=r:=⟨_,E⟩;have HP:=λw h=>KZ y.b.role y.b.ep y.b.fr y.b.tg y.b.rd y.A y.c y.b.evs 1 w h yX;rw[show iT ⟨y.b.role,y.b.ep,y.b.fr,y.b.tg,y.b.rd,y.b.evs⟩ 1=BR from qE]at HP;refine zN 6 ?_;refine vv (kZ q) ?_;refine vv (au E E (dS (cs:=BX.cells y) (Rd.yB (St.ord 2 O E) (λ_ _ h=>dh (enc:=BX.cells) (sz:=6) (λ_=>E) hy h)))) ?_;refine dO eQ (HP _ (qD.1.rd O (memT 8 E hL))) ?_;rintro _ VO ⟨I,Z,awV,rfl,T44⟩;refine⟨_,E,?_⟩;have tQ:=O.ext T44 E;refine zN 3 ?_;refine gB tQ gu ?_;intro b45 ZC zn;refine sa 0 zn kQ ?_;intro ZA xO;refine zN 5 ?_;have xL:=xO.eG [9,9,9,9,9,9,9];by_cases hB:BR.2=0
   ·rcases ade:fB X.data X.syn [fH 1 q BR.1.ep 0 aH]with _|J
    ·refine zN 7 ?_;refine yG eQ (ji 1 q ⟨BR.1,I,Z⟩ _) ?_;rintro _ w53 ⟨rfl,aof⟩;refine⟨_,E,?_⟩;have uH:=xL.on aof;refine lS (V:=λb=>.slice (aD b 0) 1 1) (row:= #[D 1,D ((q:Nat):Int),D BR.1.ep,D 0,D 0,D 0,D 0,D 0,D 0,D 0]) (t:=138) uH (wg E E E E) E E (aP (vs:=[(0,.agg #[D 1,D ((q:Nat):Int),D BR.1.ep,D 0,D 0,D 0,D 0,D 0,D 0,D 0])]) E xH kQ) ?_;intro b56 w57 Du;have BJ:=Du.eG [7,7,7,7,7,7,7];refine yG eQ (FK (rs:=[fH 1 q BR.1.ep 0 aH]) ade (Ro.blk (mem_iff_getElem?.2 ⟨0,E⟩) E E) NG.xV (by exact memT 4 E hL) (le_of_ble_eq_true E) BJ) ?_;rintro _ w64 ⟨rfl,Gx⟩;refine⟨_,E,?_⟩;refine zN 8 ?_;have zl:m.make n q=m:=adb hX (by rw[<-hyb];exact qE) ade;rw[zl];exact⟨E,Wd.dP (X':=X) (z':={z with pv:=.nilFunc}) (Ls:=[.blk b56 #[D 1,D ((q:Nat):Int),D BR.1.ep,D 0,D 0,D 0,D 0,D 0,D 0,D 0] 138,.blk b45 (bR BR.1 I Z) 42,.cK 6 I BR.1.evs.length ((BR.1.evs).flatMap Ev.cells),.blk b35 (((FD.1).cells).toArray) 30]) (fA:=R.fA) (fc:=R.fc) (fx:=R.fx) (sA:=R.sA) (sc:=R.sc) (tA:=R.tA) (tc:=R.tc) hkn iC hrr G hn Gx (NG.more.pv_ M) (λu hu=>.inl hu) (aC hX).symm G.fly.symm mI⟩
    refine zN 7 ?_;refine yG eQ (ji 1 q ⟨BR.1,I,Z⟩ _) ?_;rintro _ VQ ⟨rfl,aDc⟩;refine⟨_,E,?_⟩;have uy:=xL.on aDc;refine lS (V:=λb=>.slice (aD b 0) 1 1) (row:= #[D 1,D ((q:Nat):Int),D BR.1.ep,D 0,D 0,D 0,D 0,D 0,D 0,D 0]) (t:=138) uy (wg E E E E) E E (aP (vs:=[(0,.agg #[D 1,D ((q:Nat):Int),D BR.1.ep,D 0,D 0,D 0,D 0,D 0,D 0,D 0])]) E xH kQ) ?_;intro b69 w70 sS;have Fu:=sS.eG [7,7,7,7,7,7,7];refine yG eQ (FL (rs:=[fH 1 q BR.1.ep 0 aH]) ade (Ro.blk (mem_iff_getElem?.2 ⟨0,E⟩) E E) NG.xV (by exact memT 4 E hL) (le_of_ble_eq_true E) Fu) ?_;rintro _ w77 ⟨A73,c74,N75,rfl,awW,JD⟩;refine⟨_,E,?_⟩;refine zN 13 ?_;refine vv (au E E (dS (cs:=[.slice A73 J.length c74,D X.syn]) (St.rg 0 JD E (rV)))) ?_;rw[hX]at hmay;have FY:=λw h=>Bg (pF A73 J.length c74 J X.syn w h);rw[yt (hmay _ _ ade)]at FY;refine dO eQ (FY _ (awW.rd JD (memT 11 E (Xc hL)))) ?_;rintro _ w81 ⟨A79,c80,rfl,T83⟩;refine⟨_,E,?_⟩;have S82:=JD.ext T83 E;refine zN 5 ?_;refine jF (row':=dM n X.up (.slice A79 J.length c80) ((J.length:Nat):Int) (.slice (aD z.bb 0) 4 4) X.hints X.sure (.slice z.iA z.ix.length z.ic) (.nilFunc) X.turn) 1 S82 kQ ?_;intro w84 JF;refine zN 3 ?_;have BM:=JF.drew;refine fK 8 6 BM [] ?_;iterate 6 refine gU ?_
    refine fu kQ E E E ?_;refine vv (kZ q) ?_;refine l7 (xs':=(z.bx.set q (⟨BR.1,I,Z⟩:BX)).flatMap BX.cells) 2 BM (wn E) E E E E E E wX E (bP E) (by omega) (by rw[Nat.zero_add];exact qL (enc:=BX.cells) (sz:=6) (λ_=>E) (⟨BR.1,I,Z⟩:BX) _ _ (by omega)) ?_;intro w93 Hu;have hy95:(z.bx.set q (⟨BR.1,I,Z⟩:BX))[q]? =some (⟨BR.1,I,Z⟩:BX):=getElem?_set_self Y;refine zQ ?_;refine iX ?_;refine zN 7 ?_;refine jF 4 Hu kQ ?_ (h1:=vM _) (hs:=by exact an3);intro w96 Fy;refine zN 2 ?_;have Dw:=Fy.drew;refine aJ 12 Dw [4] ?_;refine aL 6 ?_;refine ak (v:=.agg #[D 1,D 0]) 6 E (St.del 4 Dw) (λ_ _=>gG) ?_;refine aL 2 ?_;refine ak (v:=pV kw (10+n*8)) 9 E (St.del 4 Dw) (λ_ _=>(bJ E E E (fE n underlying95 kQ E hn))) ?_;refine ak (v:=pV kw (10+n*8+q*2)) 10 E (St.del 4 Dw) (λ_ _=>(bJ E E E (fE q underlying94 kQ E hq))) ?_;refine aY 11 ?_;refine um (i:=11) E E (cs:= #[D 1,D 0]) (row':=lG (.slice R.nA 5 R.nc) (FD.1) (.slice R.fA R.fx.length R.fc) (iw m.shown n q (1,0)) (.slice R.sA m.aV.length R.sc) (.slice R.tA m.bK.length R.tc) m.calls) (fs':=(_::_::_::_::(bW kw (.slice R.nA 5 R.nc) FD.1 R.fA R.fx R.fc (iw m.shown n q (1,0)) R.sA m.aV R.sc R.tA m.bK R.tc m.calls)::_::_::_::_::_::_::_::(rr++N75))) 4 Dw (wn E) E E E E E E VK E (bP E) (by rw[aeQ];omega) (amy hn hq (a:=1) (b:=0)) E ?_;intro azW abn;refine aL 2 ?_;refine bU (l':=[]) trivial (oP ?_);have BN:=abn.eG [7,7,7,7,7,7,7];rw[ag6 hX hup hp JM hF (by rw[<-hyb];exact qE) hB ade];exact⟨E,Wd.fin (X':={X with data:=J,syn:=((J.length:Nat):Int),bs:=upd X.bs q BR.1}) (z':={z with tA:=A79,tc:=c80,pv:=.nilFunc,bx:=z.bx.set q (⟨BR.1,I,Z⟩:BX)}) (N:=N75) (Ls:=[.cK 1 A79 J.length (byteCells J),.blk b69 #[D 1,D ((q:Nat):Int),D BR.1.ep,D 0,D 0,D 0,D 0,D 0,D 0,D 0] 138,.blk b45 (bR BR.1 I Z) 42,.cK 6 I BR.1.evs.length ((BR.1.evs).flatMap Ev.cells),.blk b35 (((FD.1).cells).toArray) 30]) (fA:=R.fA) (fc:=R.fc) (fx:=R.fx) (sA:=R.sA) (sc:=R.sc) (tA:=R.tA) (tc:=R.tc) hkn iC hrr G hn BN (dY.awU (dB:=(⟨BR.1,I,Z⟩:BX)) NG hp hq (λf hf=>mem_append_left _ hf) (rW (mem_iff_getElem?.2 ⟨0,E⟩)) ⟨Ro.cK (rW (mem_iff_getElem?.2 ⟨3,E⟩)),awV⟩) (λu hu=>.inl hu) E G.fly.symm mI⟩
   refine zN 18 ?_;have zl:m.make n q=m:=ag5 (by rw[hX,<-hyb];exact qE) hB;rw[zl];exact⟨E,Wd.dP (X':=X) (z':={z with pv:=.nilFunc}) (Ls:=[.blk b45 (bR BR.1 I Z) 42,.cK 6 I BR.1.evs.length ((BR.1.evs).flatMap Ev.cells),.blk b35 (((FD.1).cells).toArray) 30]) (fA:=R.fA) (fc:=R.fc) (fx:=R.fx) (sA:=R.sA) (sc:=R.sc) (tA:=R.tA) (tc:=R.tc) hkn iC hrr G hn xL (NG.more.pv_ M) (λu hu=>.inl hu) (aC hX).symm G.fly.symm mI⟩
  refine zN 4 ?_;refine vv (v:=.bool true) (OO hup (au E E (aK (St.cl 1 O E E)))) ?_;refine zN 6 ?_;refine vg (v:=.bool false) (bC E E E Ki) ?_;refine zN 11 ?_;have vE:=O.eG [7,7,7,7,7,7,7];have zl:m.make n q=m:=ag4 JM hF;rw[zl];exact⟨E,Wd.dP (X':=X) (z':={z with pv:=.nilFunc}) (Ls:=[.blk b35 (((FD.1).cells).toArray) 30]) (fA:=R.fA) (fc:=R.fc) (fx:=R.fx) (sA:=R.sA) (sc:=R.sc) (tA:=R.tA) (tc:=R.tc) hkn iC hrr G hn vE (NG.more.pv_ M) (λu hu=>.inl hu) (aC hX).symm G.fly.symm mI⟩
 rw[hp]at hpn;obtain⟨f2,xs2,ys2,hpf⟩:=Ku hpn;subst hpf;refine zN 4 ?_;refine vv (v:=.bool true) (OO hup (au E E (aK (St.cl 1 O E E)))) ?_;refine zN 6 ?_;refine vg (v:=.bool true) (bC E E E xu) ?_;refine zN 11 ?_;have EC:=O.eG [7,7,7,7,7,7,7];have zl:m.make n q=m:=ada (by rw[hX,hp];rfl);rw[zl];exact⟨E,Wd.dP (X':=X) (z':={z with pv:=.func f2 xs2 ys2}) (Ls:=[.blk b35 (((FD.1).cells).toArray) 30]) (fA:=R.fA) (fc:=R.fc) (fx:=R.fx) (sA:=R.sA) (sc:=R.sc) (tA:=R.tA) (tc:=R.tc) hkn iC hrr G hn EC (NG.more.pv_ M) (λu hu=>.inl hu) (aC hX).symm G.fly.symm mI⟩
section
variable {K:CK}{L:List Fact}{m:Cl}{n q:Nat}{tg:Int}{X:Nd}{z:NX}{PW:Pl×Int}{BR:aQ×Int}{dB:BX}
def dY.amW (h:dY K L n X z)(I:q<4)(J:BS L dB):dY K L n (X.aA q dB.b) {z with bx:=z.bx.set q dB}:=⟨Jc h.Rn I,Ej h.Tv J,h.xV,h.ixm,h.ixo,h.lF⟩
def Wt (I:aI m.off q=PW)(h:¬PW.2=0\/PW.1.node=tg\/(m.ah PW.1.node.toNat).up=false):m.move q tg=m:=by
 subst I;unfold Cl.move;rw[if_pos h]
def afc (I:aI m.off q=PW)(hn:PW.1.node=((n:Nat):Int))(J:m.ah n=X)(M:uw (X.bs q) tg=BR)(h:¬(BR.2=0/\BR.1.ep=PW.1.epoch)):m.move q tg=m:=by
 subst I;subst J;subst M;unfold Cl.move
 split
 ·rfl
 rw[hn,Int.toNat_natCast,if_neg h]
def arq (I:aI m.off q=PW)(h1:PW.2=0)(J:¬PW.1.node=tg)(hn:PW.1.node=((n:Nat):Int))(M:m.ah n=X)(O:X.up=true)(Z:uw (X.bs q) tg=BR)(h3:BR.2=0)(h4:BR.1.ep=PW.1.epoch):m.move q tg=m.put n (X.aA q BR.1):=by
 subst I;subst M;subst Z;unfold Cl.move;have e:(aI m.off q).1.node.toNat=n:=by rw[hn,Int.toNat_natCast]
 rw[e,O,if_neg (by rintro(h|h|h);exact h h1;exact J h;cases h),if_pos ⟨h3,h4⟩];rfl
end
def YT {K:CK} {B n kn kw:Nat} {w0 w:World} {fs:List Fact} {m:Cl} {H:List LX} {q:Nat} {tg:Int} {PW:Pl×Int} (hn:n<5) (J:K.nb n=kn) (O:K.wb=kw) (hu:Uk B w0) (hB1:m.fly.length<=1000000000) (hB2:m.aV.length<=1000000000000) (hq:q<4) (HW:Wd K B w0 w fs m H) (hv: ∀ q,q<4->aj ((m.ah n).bs q)=0) (Z:aI m.off q=PW) (hwn:PW.2=0->PW.1.node=((n:Nat):Int)):
    Calls prog 38 #[pV kw 0,D ((q:Nat):Int),D tg] w (λe w'=>e=.returned (.tuple #[])/\Wd K B w0 w' fs (m.move q tg) H):=by
 obtain⟨R,G,S0⟩:=HW.open hn;have hfl:R.fx.length=m.fly.length:=by rw[<-G.fly,length_map]
 have NG:=G.iE n hn;obtain⟨X,hX⟩:∃X,m.ah n=X:=⟨_,E⟩;obtain⟨z,hz⟩:∃z,R.nx n=z:=⟨_,E⟩;rw[hX,hz]at S0 NG;have hL:∀f∈R.L,f∈gD K R m fs n:=λf h=>mem_append_right _ (mem_append_right _ h);obtain⟨rr,hrr⟩:∃r,gD K R m fs n=r:=⟨_,E⟩;rw[hrr]at S0 hL;have S:St B w0 w ((bN kn n X.up z.tA X.data z.tc X.syn z.bb X.hints X.sure z.iA z.ix z.ic z.pv X.turn)::(oB z.bb z.bx)::(fL z.iA z.ix z.ic)::(bW kw (.slice R.nA 5 R.nc) m.off R.fA R.fx R.fc m.shown R.sA m.aV R.sc R.tA m.bK R.tc m.calls)::(oL R.fA R.fx R.fc)::(oS R.sA m.aV R.sc)::(oT R.tA m.bK R.tc)::rr):=by subst J;subst O;exact S0
 clear S0 HW;have hlen:=(S.own 1 E).1;rw[iG (sz:=6) (λ_=>E)]at hlen;rw[hX]at hv;obtain⟨y,hy,hyb,qD⟩:=NG.at_ hq;have hln:=kF (jB (hyb▸hv _ hq));have yX:y.b.evs.length*48<=reachBytes:=by unfold reachBytes;omega
 have Me:=xq (hyb▸hv _ hq);obtain⟨ab,ao,qP⟩:=Ca G.arr S (memT 7 E hL);have harr:=G.arr;rw[qP]at S harr;refine gK 78 func38 ?_;refine cw [0,1,2] ?_;refine zQ ?_;have HQ:=λw h=>nO m.off q w h;rw[Z]at HQ;refine zN 4 ?_;refine vv (au E E (dS (cs:=(m.off.cells)) (St.rg 3 S E (xU)))) ?_;refine zQ ?_;refine cab eQ S (HQ _ (Uk.nw hu S)) ?_;intro w1 S2;refine zN 3 ?_;refine gB S2 Gi ?_;intro b4 w5 S6;refine sa 0 S6 kQ ?_;intro w7 S8;refine zN 5 ?_;by_cases hP:PW.2=0
 ·by_cases hT:PW.1.node=tg
  ·refine iD S8 mixed kQ ?_;refine zN 22 ?_;refine iH λGn pK=>?_;refine zN 5 ?_;have uV:=pK.aO [0];rw[<-qP]at uV;have I:m.move q tg=m:=Wt Z (.inr (.inl hT));rw[I];exact⟨E,Wd.dP (X':=X) (z':=z) (Ls:=[]) (fA:=R.fA) (fc:=R.fc) (fx:=R.fx) (sA:=R.sA) (sc:=R.sc) (tA:=R.tA) (tc:=R.tc) J O hrr G hn uV NG.more (λu hu=>.inl hu) (aC hX).symm G.fly.symm mI⟩
  have hpn:=hwn Y
  rcases hup:X.up with _|_
  ·refine iD S8 mixed kQ ?_;refine zN 12 ?_;refine ug (v:=.slice (aD ab ao) 5 R.nc) (λ_ aDd=>(au E E (aK (St.cl 4 aDd E zX)))) ?_;refine zQ ?_;refine ug (v:=D ((n:Nat):Int)) (λ_ aDe=>(Cb hpn (au E E (aK (St.cl 0 aDe E E))))) ?_;refine ug (λ_ _=>kZ n) ?_;refine ug (v:=pV kn 0) (λ_ aot=>(au E E (aK (J▸vN harr hn aot (memT 8 E hL))))) ?_;refine zN 2 ?_;refine ug (v:=.bool false) (λ_ aDf=>(OO hup (au E E (aK (St.cl 1 aDf E E))))) ?_;refine zN 2 ?_;refine iH λQK qC=>?_;refine zN 5 ?_;have wP:=qC.aO [0];rw[<-qP]at wP;have I:m.move q tg=m:=Wt Z (.inr (.inr (by rw[hpn,Int.toNat_natCast,hX];exact hup)));rw[I];exact⟨E,Wd.dP (X':=X) (z':=z) (Ls:=[]) (fA:=R.fA) (fc:=R.fc) (fx:=R.fx) (sA:=R.sA) (sc:=R.sc) (tA:=R.tA) (tc:=R.tc) J O hrr G hn wP NG.more (λu hu=>.inl hu) (aC hX).symm G.fly.symm mI⟩
  refine iD S8 mixed kQ ?_;refine zN 12 ?_;refine ug (v:=.slice (aD ab ao) 5 R.nc) (λ_ aa5=>(au E E (aK (St.cl 4 aa5 E zX)))) ?_;refine zQ ?_;refine ug (v:=D ((n:Nat):Int)) (λ_ aDg=>(Cb hpn (au E E (aK (St.cl 0 aDg E E))))) ?_;refine ug (λ_ _=>kZ n) ?_;refine ug (v:=pV kn 0) (λ_ aDh=>(au E E (aK (J▸vN harr hn aDh (memT 8 E hL))))) ?_;refine zN 2 ?_;refine ug (v:=.bool true) (λ_ aDi=>(OO hup (au E E (aK (St.cl 1 aDi E E))))) ?_;refine zN 2 ?_;refine iH λw69 zJ=>?_;refine zN 5 ?_;refine iD zJ mixed kQ ?_;refine zN 3 ?_;refine uv (v:=.slice (aD ab ao) 5 R.nc) (λ_ aos=>(au E E (aK (St.cl 4 aos E zX)))) ?_;refine zQ ?_;refine uv (v:=D ((n:Nat):Int)) (λ_ an7=>(Cb hpn (au E E (aK (St.cl 0 an7 E E))))) ?_;refine uv (λ_ _=>kZ n) ?_;refine uv (v:=pV kn 0) (λ_ aDj=>(au E E (aK (J▸vN harr hn aDj (memT 8 E hL))))) ?_;refine zQ ?_;refine iH λw80 vK=>?_;refine zN 2 ?_;obtain⟨BR,qE⟩:∃r,uw y.b tg=r:=⟨_,E⟩;have HP:=λw h=>afY y.b.role y.b.ep y.b.fr y.b.tg y.b.rd y.A y.c y.b.evs tg w h yX;rw[show uw ⟨y.b.role,y.b.ep,y.b.fr,y.b.tg,y.b.rd,y.b.evs⟩ tg=BR from qE]at HP;refine zN 6 ?_;refine vv (kZ q) ?_;refine vv (au E E (dS (cs:=BX.cells y) (Rd.yB (St.ord 2 vK E) (λ_ _ h=>dh (enc:=BX.cells) (sz:=6) (λ_=>E) hy h)))) ?_;refine zQ ?_;refine dO eQ (HP _ (qD.1.rd vK (memT 8 E hL))) ?_;rintro _ w85 ⟨M,c83,awX,rfl,T87⟩;refine⟨_,E,?_⟩;have BM:=vK.ext T87 E;refine zN 3 ?_;refine gB BM gu ?_;intro b88 w89 S90;refine sa 0 S90 kQ ?_;intro w91 zm;refine zN 4 ?_;by_cases hB:BR.2=0
  ·by_cases hE:BR.1.ep=PW.1.epoch
   ·refine zN 13 ?_;have Dq:=zm.drew;refine fK 8 6 Dq [] ?_;iterate 6 refine gU ?_
    refine fu kQ E E E ?_;refine vv (kZ q) ?_;refine l7 (xs':=(z.bx.set q (⟨BR.1,M,c83⟩:BX)).flatMap BX.cells) 4 Dq (wn E) E E E E E E wX E (bP E) (by omega) (by rw[Nat.zero_add];exact qL (enc:=BX.cells) (sz:=6) (λ_=>E) (⟨BR.1,M,c83⟩:BX) _ _ (by omega)) ?_;intro ahL wu;have hy102:(z.bx.set q (⟨BR.1,M,c83⟩:BX))[q]? =some (⟨BR.1,M,c83⟩:BX):=getElem?_set_self Y;refine zQ ?_;refine iX ?_;refine bU (l':=[]) trivial (oP ?_);have vF:=wu.aO [2,0];have yM:=vF.eG [7,7,7,7,7,7,7];rw[<-qP]at yM;have I:m.move q tg=m.put n (X.aA q BR.1):=arq Z hP hT hpn hX hup (by rw[<-hyb];exact qE) hB hE;rw[I];exact⟨E,Wd.dP (X':=(X.aA q BR.1)) (z':={z with bx:=z.bx.set q (⟨BR.1,M,c83⟩:BX)}) (Ls:=[.cK 6 M BR.1.evs.length ((BR.1.evs).flatMap Ev.cells)]) (fA:=R.fA) (fc:=R.fc) (fx:=R.fx) (sA:=R.sA) (sc:=R.sc) (tA:=R.tA) (tc:=R.tc) J O hrr G hn yM (dY.amW (dB:=(⟨BR.1,M,c83⟩:BX)) NG.more hq ⟨Ro.cK (mem_append_right _ (mem_iff_getElem?.2 ⟨0,E⟩)),awX⟩) (λu hu=>.inl hu) E G.fly.symm mI⟩
   refine zN 15 ?_;have sF:=zm.aO [2,0];have Ma:=sF.eG [7,7,7,7,7,7,7];rw[<-qP]at Ma;have I:m.move q tg=m:=afc Z hpn hX (by rw[<-hyb];exact qE) (λe=>hE e.2);rw[I];exact⟨E,Wd.dP (X':=X) (z':=z) (Ls:=[.cK 6 M BR.1.evs.length ((BR.1.evs).flatMap Ev.cells)]) (fA:=R.fA) (fc:=R.fc) (fx:=R.fx) (sA:=R.sA) (sc:=R.sc) (tA:=R.tA) (tc:=R.tc) J O hrr G hn Ma NG.more (λu hu=>.inl hu) (aC hX).symm G.fly.symm mI⟩
  refine zN 15 ?_;have EI:=zm.aO [2,0];have vD:=EI.eG [7,7,7,7,7,7,7];rw[<-qP]at vD;have I:m.move q tg=m:=afc Z hpn hX (by rw[<-hyb];exact qE) (λe=>hB e.1);rw[I];exact⟨E,Wd.dP (X':=X) (z':=z) (Ls:=[.cK 6 M BR.1.evs.length ((BR.1.evs).flatMap Ev.cells)]) (fA:=R.fA) (fc:=R.fc) (fx:=R.fx) (sA:=R.sA) (sc:=R.sc) (tA:=R.tA) (tc:=R.tc) J O hrr G hn vD NG.more (λu hu=>.inl hu) (aC hX).symm G.fly.symm mI⟩
 refine iD S8 mixed kQ ?_;refine zN 22 ?_;refine iH λanV yL=>?_;refine zN 5 ?_;have zV:=yL.aO [0];rw[<-qP]at zV;have I:m.move q tg=m:=Wt Z (.inl hP);rw[I];exact⟨E,Wd.dP (X':=X) (z':=z) (Ls:=[]) (fA:=R.fA) (fc:=R.fc) (fx:=R.fx) (sA:=R.sA) (sc:=R.sc) (tA:=R.tA) (tc:=R.tc) J O hrr G hn zV NG.more (λu hu=>.inl hu) (aC hX).symm G.fly.symm mI⟩
def Nh {B I n turn dc:Nat}{up:Bool}{J:Option Addr}{data:List UInt8}{syn:Int}{Hh:Nat->Pl}{Us:Nat->Bool}{bv iv pv:Value}{w0 w:World}{fs:List Fact}{L:List Fact}{rs:List cB}{RA:Option Addr}{rc:Nat}(hw:fB data syn rs=none)(M:Ro fs 10 RA rs.length (rs.flatMap cB.cells))(O:Ro L 1 J data.length (byteCells data))(hL:∀f∈L,f∈fs)(Z:rs.length<=1000000)(S:St B w0 w ((.blk I (dM n up (.slice J data.length dc) syn bv Hh Us iv pv turn) 105)::fs)):
  Calls tP 44 #[pV I 0,.slice RA rs.length rc] w (λe w'=>e=.returned (.bool false)/\St B w0 w' ((.blk I (dM n up (.slice J data.length dc) syn bv Hh Us iv pv turn) 105)::fs)):=(FQ (rc:=rc) M O hL Z S).mono λe w' h=>h.elim (λh=>h.2) λ⟨_,_,_,_,h,_⟩=>by rw[hw]at h;cases h
def Ni {B I n turn dc:Nat}{up:Bool}{Z:Option Addr}{data:List UInt8}{syn:Int}{Hh:Nat->Pl}{Us:Nat->Bool}{bv iv pv:Value}{w0 w:World}{fs:List Fact}{L:List Fact}{d':List UInt8}{rs:List cB}{RA:Option Addr}{rc:Nat}(hw:fB data syn rs=some d')(J:Ro fs 10 RA rs.length (rs.flatMap cB.cells))(M:Ro L 1 Z data.length (byteCells data))(hL:∀f∈L,f∈fs)(O:rs.length<=1000000)(S:St B w0 w ((.blk I (dM n up (.slice Z data.length dc) syn bv Hh Us iv pv turn) 105)::fs)):
  Calls tP 44 #[pV I 0,.slice RA rs.length rc] w (λe w'=> ∃A' c' N,e=.returned (.bool true)/\Ro (L++N) 1 A' d'.length (byteCells d')/\St B w0 w' ((.blk I (dM n up (.slice A' d'.length c') syn bv Hh Us iv pv turn) 105)::(fs++N))):=(FQ (rc:=rc) J M hL O S).mono λe w' h=>h.elim (λh=>by rw[hw]at h;cases h.1) λ⟨d2,A',c',N,h,h1,h2,h3⟩=>by
 rw[hw]at h
 cases h;exact⟨A',c',N,h1,h2,h3⟩
def ag7 {kn kw:Nat}{L:List Fact}:∀ {p:Option bO} {v:Value},p9 kn kw L p v->v.oneCell'=true
 |none,v,h=>by
  have I:v=.nilFunc:=h;subst I;rfl
 |some p,v,h=>by
  obtain⟨f,xs,ys,rfl⟩:=Ku h;rfl
def awY {me turn:Nat}{up:Bool}{tv bv iv pv:Value}{syn:Int}{H:Nat->Pl}{U:Nat->Bool}(h1:tv.oneCell'=true)(I:bv.oneCell'=true)(J:iv.oneCell'=true)(M:pv.oneCell'=true):∀u∈(dM me up tv syn bv H U iv pv turn).toList,u.oneCell'=true:=by
 intro u h;simp only[dM,mem_cons,not_mem_nil,or_false]at h
 rcases h with rfl|rfl|rfl|rfl|rfl|rfl|rfl|rfl|rfl|rfl|rfl|rfl|rfl|rfl|rfl|rfl|rfl|rfl|rfl|rfl<;>first|rfl|assumption
section
variable {V:Nat->aQ}{k n:Nat}{s:Int}{d d':List UInt8}{bs ws:List BX}{L:List Fact}{m mm md:Cl}{X:Nd}{y x:BX}{b:aQ}{H:List LX}
def O9 (I:∀y∈bs,y.b.evs.length<=y.c)(y:BX)(h:y∈bs):BS (fJ bs) y:=⟨Ro.cK (mem_map.2 ⟨y,h,E⟩),I y h⟩
def Wu (h:bs.map BX.b=vB V)(J:k<4):∃y,bs[k]? =some y/\y.b=V k:=by
 have M:bs.length=4:=by have:=congrArg length h;simpa[vB]using this
 refine⟨bs[k],getElem?_eq_getElem Y,?_⟩;have h1:(bs.map BX.b)[k]? =some (bs[k]).b:=by rw[getElem?_map,getElem?_eq_getElem Y];rfl
 rw[h]at h1;have I:k=0\/k=1\/k=2\/k=3:=Y
 rcases I with rfl|rfl|rfl|rfl<;>(simp only[vB]at h1;exact(Option.some.inj h1).symm)
def ars:vB V=vB (λj=>if j<0/\(V j).role=1 then(dK (V j)).1 else V j):=Az λj _=>by rw[if_neg Y]
def adf (h:¬(V k).role=1):vB (λj=>if j<k/\(V j).role=1 then(dK (V j)).1 else V j)=vB (λj=>if j<k+1/\(V j).role=1 then(dK (V j)).1 else V j):=Az λj _=>by
 by_cases e:j=k
 ·subst e;rw[if_neg (λI=>h I.2),if_neg (λI=>h I.2)]
 by_cases J:j<k/\(V j).role=1
 ·rw[if_pos J,if_pos ⟨by omega,J.2⟩]
 rw[if_neg J,if_neg (λI=>J ⟨by omega,I.2⟩)]
def adg (I:k<4)(J:(V k).role=1)(M:(dK (V k)).1=b):(vB (λj=>if j<k/\(V j).role=1 then(dK (V j)).1 else V j)).set k b=vB (λj=>if j<k+1/\(V j).role=1 then(dK (V j)).1 else V j):=by
 rw[VY I];refine Az λj _=>?_;by_cases e:j=k
 ·subst e;rw[upd_same,if_pos ⟨by omega,J⟩,M]
 rw[upd_ne e];by_cases h:j<k/\(V j).role=1
 ·rw[if_pos h,if_pos ⟨by omega,h.2⟩]
 rw[if_neg h,if_neg (λO=>h ⟨by omega,O.2⟩)]
def adh {r:List Nat}(h:¬(V k).role=1):eF s V (k::r) d=eF s V r d:=by rw[eF,if_pos h]
def adi {r:List Nat}(h:(V k).role=1)(h1:(dK (V k)).2=0)(I:fB d s [fH 2 k (V k).ep 0 aF]=some d'):eF s V (k::r) d=eF s V r d':=by
 rw[eF,if_neg (λe=>e h),if_neg (λe=>e h1),I]
def ag8 {r:List Nat}(h:(V k).role=1)(h1:¬(dK (V k)).2=0):eF s V (k::r) d=none:=by rw[eF,if_neg (λe=>e h),if_pos h1]
def ag9 {r:List Nat}(h:(V k).role=1)(I:fB d s [fH 2 k (V k).ep 0 aF]=none):eF s V (k::r) d=none:=by
 rw[eF,if_neg (λe=>e h)]
 split
 ·rfl
 rw[I]
def Kv:∀ {M:List Nat} {d d':List UInt8},eF s V M d=some d'-> ∀q∈M,(V q).role=1->aj (iy (V q))=0/\dK (V q)=(iy (V q),0)
 |[],d,d',h,q,I,_=>by simp at I
 |k::r,d,d',h,q,I,J=>by
  rw[eF]at h;by_cases c1:(V k).role≠1
  ·rw[if_pos c1]at h
   rcases mem_cons.1 I with rfl|I
   ·exact absurd J c1
   exact Kv h q I J
  rw[if_neg c1]at h;by_cases c2:(dK (V k)).2≠0
  ·rw[if_pos c2]at h;cases h
  rw[if_neg c2]at h
  split at h
  ·cases h
  rcases mem_cons.1 I with rfl|I
  ·exact ZO J c2
  exact Kv h q I J
def adk (h:eF s V [0,1,2,3] d=some d')(q:Nat)(J:q<4):(V q).role=1->aj (iy (V q))=0/\dK (V q)=(iy (V q),0):=Kv h q (by
 have I:q=0\/q=1\/q=2\/q=3:=Y
 rcases I with rfl|rfl|rfl|rfl<;>decide)
def aha (hw:(V k).role=1->aj (iy (V k))=0/\dK (V k)=(iy (V k),0))(h:x.b=if k<4/\(V k).role=1 then(dK (V k)).1 else V k)(I:¬x.b.role=1):¬(V k).role=1:=λe=>I (by
 rw[h]
 split
 ·rw[(hw e).2];rfl
 exact e)
def ahb (J:x.b=if k<4/\(V k).role=1 then(dK (V k)).1 else V k)(I:x.b.role=1):(V k).role=1:=by
 by_cases c:(V k).role=1
 ·exact c
 rw[J,if_neg (λh=>c h.2)]at I;exact I
def YU {r:List Nat}(h:¬(V k).role=1):Cl.woken n V (k::r) mm=Cl.woken n V r mm:=by rw[Cl.woken,if_pos h]
def YV {r:List Nat}(h:(V k).role=1)(I:md=((mm.recover n k).aA n k (dK (V k)).1).tell n k aF eT (-1)):Cl.woken n V (k::r) mm=Cl.woken n V r md:=by rw[Cl.woken,if_neg (λe=>e h),I]
def adl {q:Nat}(h:mm.ah n=X):(mm.aA n q b).tell n q aF eT (-1)={mm.put n (X.aA q b)with aV:=mm.aV++[⟨n,q,b.ep,aF,eT,-1⟩],shown:=iw mm.shown n q (b.ep,(b.evs.length:Int))}:=by
 subst h;have e:((mm.aA n q b).ah n).bs q=b:=by
  show(upd mm.ah n _ n).bs q=b
  rw[upd_same];exact upd_same _ _ _
 unfold Cl.tell;rw[e];rfl
def ak8 (h:∀q,q<4->aj (X.bs q)=0)(I:aj b=0)(j:Nat)(J:j<4):aj ((X.aA k b).bs j)=0:=by
 show aj (upd X.bs k b j)=0
 by_cases e:j=k
 ·rw[e,upd_same];exact I
 rw[upd_ne e];exact h j J
def Jm {f:Nat->Nat->Int×Int}{a q:Nat}{e:Int}{l:List Ev}(h:∀a b,0<=(f a b).2)(i j:Nat):0<=(iw f a q (e,(l.length:Int)) i j).2:=by
 unfold iw
 split
 ·exact Int.natCast_nonneg _
 exact h i j
def FZ (m:Cl)(n q:Nat)(h:∀a b,0<=(m.shown a b).2):(m.recover n q).ah=m.ah/\(m.recover n q).fly=m.fly/\ ∀a b,0<=((m.recover n q).shown a b).2:=by
 have tl:∀(m:Cl) e a u,(∀a b,0<=(m.shown a b).2)-> ∀i j,0<=((m.tell n q e a u).shown i j).2:=λm e a u h=>Jm h;have rc:∀(il:List Nat) (m:Cl) evs an,(∀a b,0<=(m.shown a b).2)->(m.recovered n q evs an il).ah=m.ah/\(m.recovered n q evs an il).fly=m.fly/\ ∀i j,0<=((m.recovered n q evs an il).shown i j).2:=by
  intro il
  induction il with
  |nil=>intro m evs an h;exact⟨E,E,h⟩
  |cons i r I=>
   intro m evs an h;rw[Cl.recovered];exact I _ evs an (tl m _ _ _ h)
 unfold Cl.recover
 split
 ·exact⟨E,E,tl m _ _ _ h⟩
 exact rc _ m _ _ h
def ahc (h:(m.ah n).up=true):m.start n=m:=if_pos h
def TY (I:m.ah n=X)(J:X.up=false)(h:eF (jA X.data X.syn).2.1 (bg X.data X.syn) [0,1,2,3] (jA X.data X.syn).1=none):m.start n=m:=by
 subst I;unfold Cl.start;rw[if_neg (by rw[J];simp),h]
def adn (I:m.ah n=X)(J:X.up=false)(h:eF (jA X.data X.syn).2.1 (bg X.data X.syn) [0,1,2,3] (jA X.data X.syn).1=some d):
  m.start n=Cl.woken n (bg X.data X.syn) [0,1,2,3] (m.put n {X.blank with up:=true,data:=d,syn:=((d.length:Nat):Int),bs:=bg X.data X.syn}):=by
 subst I;unfold Cl.start;rw[if_neg (by rw[J];simp),h]
def hwl (ws:List BX):List LX:=ws.map λy=>⟨{evs:=y.b.evs},y.A,y.c⟩
def aru (h:∀u∈hwl ws++H,Rl L u)(I:ws[k]? =some x):BS L x:=h ⟨{evs:=x.b.evs},x.A,x.c⟩ (mem_append_left _ (mem_map.2 ⟨x,mem_of_getElem? I,E⟩))
def ak9 {P:LX->Prop}(h:∀y∈ws,P ⟨{evs:=y.b.evs},y.A,y.c⟩):∀u∈hwl ws++H,u∈H\/P u:=λu I=>(mem_append.1 I).elim (λh1=>by obtain⟨y,J,rfl⟩:=mem_map.1 h1;exact .inr (h y J)) .inl
def BS.more {N:List Fact}(h:BS L x):BS (L++N) x:=h.mono λ_ I=>mem_append_left _ I
def ahd {K:CK}{B:Nat}{w0 w:World}{fs:List Fact}(h:Wd K B w0 w fs m (hwl ws++H)):Wd K B w0 w fs m H:=by
 obtain⟨R,G,S⟩:=h;exact⟨R,⟨G.fly,G.flo,G.iE,G.arr,λu I=>G.hld u (mem_append_right _ I)⟩,S⟩
def aDk {lH N Ls:List Fact}{f:Fact}(h:f∈lH):f∈L++((lH++N)++Ls):=mem_append_right _ (mem_append_left _ (mem_append_left _ h))
def aDl {lH Ls:List Fact}{f:Fact}(h:f∈lH):f∈L++(lH++Ls):=mem_append_right _ (mem_append_left _ h)
end
def Vy {K:CK} {B n kn kw:Nat} {w0 w:World} {fs:List Fact} {m:Cl} {H:List LX} (hn:n<5) (hkn:K.nb n=kn) (iC:K.wb=kw) (hu:Uk B w0) (hB1:m.fly.length<=1000000000) (hB2:m.aV.length<=900000000000) (HW:Wd K B w0 w fs m H) (hT:CZ (m.ah n).data (m.ah n).syn=some (vB (bg (m.ah n).data (m.ah n).syn))) (hvv: ∀ q,q<4->aj (bg (m.ah n).data (m.ah n).syn q)=0) (hbz:(uI (jA (m.ah n).data (m.ah n).syn).1 (jA (m.ah n).data (m.ah n).syn).2.1).1.length*80<=reachBytes) (hmay: ∀ d,eF (jA (m.ah n).data (m.ah n).syn).2.1 (bg (m.ah n).data (m.ah n).syn) [0,1,2,3] (jA (m.ah n).data (m.ah n).syn).1=some d->dw d (jA (m.ah n).data (m.ah n).syn).2.1=true) (hsh: ∀ a b,0<=(m.shown a b).2):
    Calls tP 37 #[pV kw 0,pV kn 0] w (λe w'=>e=.returned (.tuple #[])/\Wd K B w0 w' fs (m.start n) H):=by
 obtain⟨R,G,S0⟩:=HW.open hn;have hfl:R.fx.length=m.fly.length:=by rw[<-G.fly,length_map]
 have NG:=G.iE n hn;obtain⟨X,hX⟩:∃X,m.ah n=X:=⟨_,E⟩;obtain⟨z,hz⟩:∃z,R.nx n=z:=⟨_,E⟩;rw[hX,hz]at S0 NG;have hL:∀f∈R.L,f∈gD K R m fs n:=λf h=>mem_append_right _ (mem_append_right _ h);obtain⟨rr,hrr⟩:∃r,gD K R m fs n=r:=⟨_,E⟩;rw[hrr]at S0 hL;have S:St B w0 w (cN kn n X z z.pv (cF kw R m rr)):=by subst hkn;subst iC;exact S0
 clear S0 HW;have hlen:=(S.own 1 E).1;rw[iG (sz:=6) (λ_=>E)]at hlen;have aDm:z.pv.oneCell'=true:=ag7 NG.lF;obtain⟨P1,hP1⟩:∃r,jA X.data X.syn=r:=⟨_,E⟩;rw[hX]at hT hvv hbz hmay;have HRd:=λw h=>Ik z.tA z.tc X.data X.syn w h hT hbz;rw[hP1]at HRd hmay;refine gK 113 func37 ?_;refine cw [0,1] ?_;refine zN 9 ?_
 cases hb1:(X.up)
 ·refine bH (l':=[(0,pV kw 0),(1,pV kn 0),(18,.bool false)]) Fb (jm E (mo (dF (aM (av (vm ?_))))));refine zN 2 ?_;refine vv (au E E (dS (cs:=[.slice z.tA X.data.length z.tc,D X.syn]) (St.rg 0 S E (rV)))) ?_;refine dO eQ (HRd _ (NG.xV.rd S (memT 7 E hL))) ?_;rintro _ w9 ⟨A2,c3,bB,bs,hbm,hbl,hbc,rfl,T8⟩;refine⟨_,E,?_⟩;have Dr:=S.ext T8 (by simp[Kt,Fact.Io]);have Cw:St B w0 w9 ((oB bB bs)::(.cK 1 A2 P1.1.length (byteCells P1.1))::(cN kn n X z z.pv (cF kw R m (rr++fJ bs)))):=St.perm Dr (Perm.cons _ (Perm.cons _ (perm_append_comm (l₁:=fJ bs))));clear S;refine zN 3 ?_;refine gB Cw zh ?_;intro b12 Ea mX;refine stA 0 mX kQ ?_;intro KY qK;refine zN 6 ?_;refine dO eQ (M7 _ 4 4 (bs.flatMap BX.cells) _ (St.ord 1 qK E) (akx _) dQ) ?_;rintro _ Fq ⟨A17,I,rfl,aDn,aDo⟩;refine⟨_,E,?_⟩;have jX:=qK.uj aDn aDo;obtain⟨wB,hWA⟩:=Et (jX.own 0 E) dQ;subst hWA;refine zN 8 ?_;refine gB jX avK ?_;intro Ao NU lC;refine stA 0 lC kQ ?_ (h1:=by exact awY E E E aDm);intro NP tT;refine zN 6 ?_;refine jF (row':=dM n X.up (.slice A2 P1.1.length c3) P1.2.1 (.slice (aD z.bb 0) 4 4) X.hints X.sure (.slice z.iA z.ix.length z.ic) (z.pv) X.turn) 0 tT kQ ?_;intro Zu uD;refine zN 11 ?_;have BH:=uD.aO [2];have qB:St B w0 Zu (_::_::_::_::_::_::_::_::_::_::((rr++fJ bs)++[.cK 1 A2 P1.1.length (byteCells P1.1)])):=BH.toEnd 3 E;have uW:=qB.eG [9,9,9,9,9,9,9];refine fO (X:=Nat×(Option Addr)×Nat×(List UInt8)×(List BX)×(List Fact)) (λO=>[(0,pV kw 0),(1,pV kn 0),(5,.slice (aD bB 0) 4 4),(6,.slice (aD wB 0) 4 I),(7,pV Ao 0),(34,.slice (aD bB 0) 4 4),(35,D 4),(36,D ((O.1:Nat):Int))]) (λO wr=>(O.1<=4)/\(eF P1.2.1 (bg X.data X.syn) [0,1,2,3] P1.1=eF P1.2.1 (bg X.data X.syn) ((range 4).drop O.1) O.2.2.2.1)/\(O.2.2.2.2.1.map BX.b=vB (λj=>if j<O.1/\((bg X.data X.syn) j).role=1 then(dK ((bg X.data X.syn) j)).1 else(bg X.data X.syn) j))/\(∀y∈O.2.2.2.2.1,BS (fJ bs++O.2.2.2.2.2) y)/\(Ro O.2.2.2.2.2 1 O.2.1 O.2.2.2.1.length (byteCells O.2.2.2.1))/\St B w0 wr (cN kn n X z z.pv (cF kw R m ((bN Ao n X.up O.2.1 O.2.2.2.1 O.2.2.1 P1.2.1 z.bb X.hints X.sure z.iA z.ix z.ic z.pv X.turn)::(.own 42 6 (.slice (aD wB 0) 4 I) 4 ((O.2.2.2.2.1).flatMap BX.cells))::(oB bB bs)::((rr++fJ bs)++O.2.2.2.2.2))))) (λO=>4-O.1) (0,A2,c3,P1.1,bs,[.cK 1 A2 P1.1.length (byteCells P1.1)]) ?_ ?_ ?_
  ·exact⟨zero_le _,E,(by rw[hbm];exact ars),(λy hy=>(O9 hbc y hy).mono λf hf=>mem_append_left _ hf),(Ro.cK (mem_singleton.2 E)),uW⟩
  ·exact VH
  rintro⟨k,A9,c9,d9,ws,N9⟩ w33 ⟨aoz,Sk,Xo,ah4,Sc,qW⟩
  try dsimp only at aoz Sk Xo ah4 Sc qW
  refine bH (l':=[(0,pV kw 0),(1,pV kn 0),(5,.slice (aD bB 0) 4 4),(6,.slice (aD wB 0) 4 I),(7,pV Ao 0),(34,.slice (aD bB 0) 4 4),(35,D 4),(36,D ((k:Nat):Int))]) VH (aM (av ?_));by_cases h40:((k:Nat):Int)<4
  ·refine zN 10 ?_;have J:k<4:=Y;obtain⟨y,hy,hyV⟩:=Wu hbm J;have qD:=O9 hbc y (mem_of_getElem? hy);obtain⟨y0,hy0,_⟩:=Wu Xo J;have hlw:ws.length=4:=by have:=congrArg length Xo;simpa[vB]using this
   have hvk:=hvv k J;have hln:=kF (jB hvk);have yX:y.b.evs.length*48<=reachBytes:=by rw[hyV];unfold reachBytes;omega
   have Me:=xq hvk;refine zN 2 ?_;refine vv (kZ k) ?_;refine vv (au E E (dS (cs:=BX.cells y) (Rd.yB (St.ord 9 qW E) (λ_ _ h=>dh (enc:=BX.cells) (sz:=6) (λ_=>E) hy h)))) ?_;refine gB qW gu ?_;intro b41 VO tQ;refine zQ ?_;refine stA 0 tQ kQ ?_;intro QK qC;refine zN 7 ?_;by_cases h46:y.b.role=1
   ·refine zN 7 ?_;obtain⟨BR,qE⟩:∃r,dK y.b=r:=⟨_,E⟩;have HP:=λw h=>Yi y.b.role y.b.ep y.b.fr y.b.tg y.b.rd y.A y.c y.b.evs w h yX;rw[show dK ⟨y.b.role,y.b.ep,y.b.fr,y.b.tg,y.b.rd,y.b.evs⟩=BR from qE]at HP;refine zN 2 ?_;refine dO eQ (HP _ (qD.1.rd qC (memT 11 E (λf hf=>mem_append_left _ (mem_append_right _ hf))))) ?_;rintro _ VP ⟨MU,c48,awZ,rfl,T52⟩;refine⟨_,E,?_⟩;have vT:=qC.ext T52 E;refine zN 3 ?_;refine gB vT gu ?_;intro b53 w54 vU;refine stA 0 vU kQ ?_;intro w56 vJ;refine zN 7 ?_;refine cab eQ vJ (ji 2 k y _) ?_;intro w58 BJ;refine gB BJ wY ?_;intro b61 Zx wO;refine stA 0 wO kQ ?_;intro w64 Gx;refine zN 4 ?_;refine vv (v:=.agg #[D 4,D 0,D 0,D 0,D 0,D 0]) gG ?_;refine zQ ?_;refine jF (row':= #[D 2,D ((k:Nat):Int),D y.b.ep,D 0,D 4,D 0,D 0,D 0,D 0,D 0]) 0 Gx kQ ?_;intro VQ uy;refine zN 4 ?_;by_cases hB:BR.2=0
    ·rcases ah5:fB d9 P1.2.1 [fH 2 k y.b.ep 0 aF]with _|aDp
     ·refine zN 5 ?_;refine lS (V:=λb=>.slice (aD b 0) 1 1) (row:= #[D 2,D ((k:Nat):Int),D y.b.ep,D 0,D 4,D 0,D 0,D 0,D 0,D 0]) (t:=138) uy (wg E E E E) E E (aP (vs:=[(0,.agg #[D 2,D ((k:Nat):Int),D y.b.ep,D 0,D 4,D 0,D 0,D 0,D 0,D 0])]) E xH kQ) ?_;intro b70 w71 Fu;have tV:=Fu.eG [12];refine yG eQ (Nh (rs:=[fH 2 k y.b.ep 0 aF]) ah5 (Ro.blk (mem_iff_getElem?.2 ⟨0,E⟩) E E) Sc (by exact memT 14 E λf hf=>mem_append_right _ hf) (le_of_ble_eq_true E) tV) ?_;rintro _ w78 ⟨rfl,Dn⟩;refine⟨_,E,?_⟩;refine zN 13 ?_;have BK:=Dn.aO [14,13,5,4,3,2,1,0];have vK:=(BK).Rp.Rp;have hr1:((bg X.data X.syn) k).role=1:=by rw[<-hyV];omega
      have zl:m.start n=m:=TY hX ‹_› (by rw[hP1,Sk,nL J];exact ag9 hr1 (by rw[<-hyV];exact ah5));rw[zl];exact⟨E,Wd.dP (X':=X) (z':=z) (Ls:=[]) (fA:=R.fA) (fc:=R.fc) (fx:=R.fx) (sA:=R.sA) (sc:=R.sc) (tA:=R.tA) (tc:=R.tc) hkn iC hrr G hn vK NG.more (λu hu=>.inl hu) (aC hX).symm G.fly.symm mI⟩
     refine zN 5 ?_;refine lS (V:=λb=>.slice (aD b 0) 1 1) (row:= #[D 2,D ((k:Nat):Int),D y.b.ep,D 0,D 4,D 0,D 0,D 0,D 0,D 0]) (t:=138) uy (wg E E E E) E E (aP (vs:=[(0,.agg #[D 2,D ((k:Nat):Int),D y.b.ep,D 0,D 4,D 0,D 0,D 0,D 0,D 0])]) E xH kQ) ?_;intro b82 w83 Fx;have JF:=Fx.eG [12];refine yG eQ (Ni (rs:=[fH 2 k y.b.ep 0 aF]) ah5 (Ro.blk (mem_iff_getElem?.2 ⟨0,E⟩) E E) Sc (by exact memT 14 E λf hf=>mem_append_right _ hf) (le_of_ble_eq_true E) JF) ?_;rintro _ w90 ⟨A86,c87,N88,rfl,aw0,QL⟩;refine⟨_,E,?_⟩;refine zN 11 ?_;refine vv (kZ k) ?_;refine l7 (xs':=(ws.set k (⟨BR.1,MU,c48⟩:BX)).flatMap BX.cells) 13 QL (wn E) E E E E E E wX E (bP E) (by omega) (by rw[Nat.zero_add];exact qL (enc:=BX.cells) (sz:=6) (λ_=>E) (⟨BR.1,MU,c48⟩:BX) _ _ (by omega)) ?_;intro w92 Dq;have aKR:(ws.set k (⟨BR.1,MU,c48⟩:BX))[k]? =some (⟨BR.1,MU,c48⟩:BX):=getElem?_set_self Y;refine zN 4 ?_;refine vv (v:=D ((k+1:Nat):Int)) jc ?_;refine zN 2 ?_;have K6:=Dq.aO [5,3,2,1];have Fz:St B w0 w92 (_::_::_::_::_::_::_::_::_::_::((((rr++fJ bs)++N9)++N88)++[.cK 6 MU BR.1.evs.length ((BR.1.evs).flatMap Ev.cells)])):=K6.toEnd 1 E;have Fy:=Fz.eG [7,7,7,7,7,7,7];have Dw:=Fy;have hr1:((bg X.data X.syn) k).role=1:=by rw[<-hyV];omega
     have hap:((((rr++fJ bs)++N9)++N88)++[.cK 6 MU BR.1.evs.length ((BR.1.evs).flatMap Ev.cells)])=((rr++fJ bs)++(N9++(N88++[.cK 6 MU BR.1.evs.length ((BR.1.evs).flatMap Ev.cells)]))):=by simp only[append_assoc]
     rw[hap]at Dw;refine bQ (k+1,A86,c87,aDp,ws.set k (⟨BR.1,MU,c48⟩:BX),N9++(N88++[.cK 6 MU BR.1.evs.length ((BR.1.evs).flatMap Ev.cells)])) ?_ VH (by first|omega|(dsimp only;omega));exact⟨uQ,(by dsimp only;rw[Sk,nL J];exact adi hr1 (by rw[<-hyV,qE];exact hB) (by rw[<-hyV];exact ah5)),(by dsimp only;rw[map_set,Xo];exact adg J hr1 (by rw[<-hyV,qE])),(Ej (λu hu=>(ah4 u hu).mono (λf hf=>(mem_append.1 hf).elim (λh=>mem_append_left _ h) λh=>mem_append_right _ (mem_append_left _ h))) ⟨Ro.cK (mem_append_right _ (mem_append_right _ (mem_append_right _ (mem_singleton.2 E)))),awZ⟩),(aw0.mono (λf hf=>(mem_append.1 hf).elim (λh=>mem_append_left _ h) λh=>mem_append_right _ (mem_append_left _ h))),Dw⟩
    refine zN 20 ?_;have S99:=uy.aO [13,12,11,3,2,1,0];have wm:=(S99).Rp.Rp;have hr1:((bg X.data X.syn) k).role=1:=by rw[<-hyV];omega
    have zl:m.start n=m:=TY hX ‹_› (by rw[hP1,Sk,nL J];exact ag8 hr1 (by rw[<-hyV,qE];exact hB));rw[zl];exact⟨E,Wd.dP (X':=X) (z':=z) (Ls:=[]) (fA:=R.fA) (fc:=R.fc) (fx:=R.fx) (sA:=R.sA) (sc:=R.sc) (tA:=R.tA) (tc:=R.tc) hkn iC hrr G hn wm NG.more (λu hu=>.inl hu) (aC hX).symm G.fly.symm mI⟩
   refine zN 9 ?_;refine vv (v:=D ((k+1:Nat):Int)) jc ?_;refine zN 2 ?_;have wu:=qC.aO [0];have tq:=wu;have hro:¬((bg X.data X.syn) k).role=1:=by rw[<-hyV];assumption
   refine bQ (k+1,A9,c9,d9,ws,N9) ?_ VH (by first|omega|(dsimp only;omega));exact⟨uQ,(by dsimp only;rw[Sk,nL J];exact adh hro),(by dsimp only;rw[Xo];exact adf hro),ah4,Sc,tq⟩
  refine zN 15 ?_;refine jF (row':=dM n true (.slice z.tA X.data.length z.tc) X.syn (.slice (aD z.bb 0) 4 4) X.hints X.sure (.slice z.iA z.ix.length z.ic) (z.pv) X.turn) 0 qW kQ ?_;intro aC3 yM;refine zN 5 ?_;refine dO eQ (nQ yM hu) ?_;rintro _ abD ⟨rfl,aw1,EI⟩;refine⟨_,E,?_⟩;have vD:=EI.aO [3,2,1];refine zN 6 ?_;refine vv (au E E (dS (cs:=[.slice A9 d9.length c9,D P1.2.1]) (St.rg 5 vD E (rV)))) ?_;have hwA:eF P1.2.1 (bg X.data X.syn) [0,1,2,3] P1.1=some d9:=by rw[Sk,drop_eq_nil_of_le (by rw[length_range];omega)];rfl
  have FY:=λw h=>Bg (pF A9 d9.length c9 d9 P1.2.1 w h);rw[yt (hmay _ hwA)]at FY;refine dO eQ (FY _ (Sc.rd vD (memT 8 E λf hf=>mem_append_right _ hf))) ?_;rintro _ abF ⟨Ob,Sb,rfl,aDq⟩;refine⟨_,E,?_⟩;have BN:=vD.ext aDq E;refine zN 5 ?_;refine jF (row':=dM n true (.slice Ob d9.length Sb) ((d9.length:Nat):Int) (.slice (aD aw1 0) 4 4) (λ_=>nowhere) (λ_=>false) (.slice none 0 0) (.nilFunc) X.turn) 1 BN kQ ?_;intro anx qY;refine zN 8 ?_;refine jF (row':=dM n true (.slice Ob d9.length Sb) ((d9.length:Nat):Int) (.slice (aD bB 0) 4 4) (λ_=>nowhere) (λ_=>false) (.slice none 0 0) (.nilFunc) X.turn) 1 qY kQ ?_;intro atv zV;refine zN 10 ?_;have hwA:eF P1.2.1 (bg X.data X.syn) [0,1,2,3] P1.1=some d9:=by rw[Sk,drop_eq_nil_of_le (by rw[length_range];omega)];rfl
  have aDr:k=4:=Y;have hsp:=Xo;rw[aDr]at hsp;have wo:=zV.aO [6];have xP:=wo.Cr 119 23;have uE:=(((((((((xP.bring 7 E).bring 2 E).bring 7 E).bring 7 E).bring 7 E).bring 7 E).bring 6 E).bring 8 E).bring 8 E);rw[show((rr++fJ bs)++N9)=(rr++(fJ bs++N9))from append_assoc ..]at uE;obtain⟨m1,hm1⟩:∃k,k=m.put n {X.blank with up:=true,data:=d9,syn:=((d9.length:Nat):Int),bs:=(bg X.data X.syn)}:=⟨_,E⟩;have HW1:Wd K B w0 atv ((.own 42 6 (.slice (aD wB 0) 4 I) 4 ((ws).flatMap BX.cells))::fs) m1 (hwl ws++H):=by
   rw[hm1];refine Wd.fin (m:=m) (fs:=(.own 42 6 (.slice (aD wB 0) 4 I) 4 ((ws).flatMap BX.cells))::fs) (X':={X.blank with up:=true,data:=d9,syn:=((d9.length:Nat):Int),bs:=(bg X.data X.syn)}) (z':={bb:=bB,tA:=Ob,tc:=Sb,bx:=bs,iA:=none,ic:=0,ix:=[],pv:=.nilFunc}) (N:=fJ bs++N9) (Ls:=[.cK 1 Ob d9.length (byteCells d9)]) (rr:=(.own 42 6 (.slice (aD wB 0) 4 I) 4 ((ws).flatMap BX.cells))::rr) (H:=H) (fA:=R.fA) (fc:=R.fc) (fx:=R.fx) (sA:=R.sA) (sc:=R.sc) (tA:=R.tA) (tc:=R.tc) hkn iC (by rw[<-hrr];rfl) G hn uE ⟨hbm,λu hu=>(O9 hbc u hu).mono (λf hf=>aDk hf),Ro.cK (rW (mem_singleton.2 E)),E,λu hu=>by simp at hu,E⟩ (λu hu=>.inl hu) E G.fly.symm ?_;exact ak9 λy hy=>(ah4 y hy).mono λf hf=>aDl hf
  have hwo:=adk hwA;have auQ:m1.ah n={X.blank with up:=true,data:=d9,syn:=((d9.length:Nat):Int),bs:=(bg X.data X.syn)}:=by rw[hm1];exact aW _
  refine fO (X:=Nat×Cl) (λO=>[(0,pV kw 0),(1,pV kn 0),(85,.slice (aD wB 0) 4 I),(86,D 4),(87,D ((O.1:Nat):Int))]) (λO wr=>(Wd K B w0 wr ((.own 42 6 (.slice (aD wB 0) 4 I) 4 ((ws).flatMap BX.cells))::fs) O.2 (hwl ws++H))/\(Cl.woken n (bg X.data X.syn) [0,1,2,3] m1=Cl.woken n (bg X.data X.syn) ((range 4).drop O.1) O.2)/\(O.1<=4)/\(O.2.fly=m.fly)/\(∀j,j<4->aj ((O.2.ah n).bs j)=0)/\(∀j,O.1<=j->j<4->(O.2.ah n).bs j=(bg X.data X.syn) j)/\(∀a b,0<=(O.2.shown a b).2)/\(O.2.aV.length<=m.aV.length+2001*O.1)/\St B w0 wr [.own 42 6 (.slice (aD wB 0) 4 I) 4 ((ws).flatMap BX.cells)]) (λO=>4-O.1) (0,m1) ?_ ?_ ?_
  ·exact⟨HW1,E,zero_le _,by rw[hm1];rfl,λj hj=>by dsimp only;rw[auQ];exact hvv j hj,λj _ _=>by dsimp only;rw[auQ],λa b=>by dsimp only;rw[hm1];exact hsh a b,by dsimp only;rw[hm1];exact Nat.le_refl _,Wd.Ii (gs:=[.own 42 6 (.slice (aD wB 0) 4 I) 4 ((ws).flatMap BX.cells)]) HW1⟩
  ·exact zZ
  rintro⟨M,mm⟩ abL ⟨ad1,Xp,aw2,Xq,Z,Xr,Xt,aw3,CV⟩
  try dsimp only at ad1 Xp aw2 Xq Z Xr Xt aw3 CV
  refine bH (l':=[(0,pV kw 0),(1,pV kn 0),(85,.slice (aD wB 0) 4 I),(86,D 4),(87,D ((M:Nat):Int))]) zZ ?_;obtain⟨R3,G3,Wv⟩:=ad1.open hn;have T9:=G3.iE n hn;obtain⟨X3,Ua⟩:∃X,mm.ah n=X:=⟨_,E⟩;obtain⟨z3,hz3⟩:∃z,R3.nx n=z:=⟨_,E⟩;rw[Ua,hz3]at Wv T9;obtain⟨rr3,Jo⟩:∃r,gD K R3 mm fs n=r:=⟨_,E⟩;have aKS:R3.fx.length=mm.fly.length:=by rw[<-G3.fly,length_map]
  have yN:St B w0 abL (cN kn n X3 z3 z3.pv (cF kw R3 mm ((.own 42 6 (.slice (aD wB 0) 4 I) 4 ((ws).flatMap BX.cells))::rr3))):=by rw[<-Jo];subst hkn;subst iC;exact Wv
  clear Wv;have hlen3:=(yN.own 1 E).1;rw[iG (sz:=6) (λ_=>E)]at hlen3;rw[Ua]at Z Xr;refine zN 2 ?_;by_cases aKT:((M:Nat):Int)<4
  ·refine zN 10 ?_;have J:M<4:=Y;obtain⟨x,hx,hxs⟩:=Wu hsp J;refine zN 2 ?_;refine vv (kZ M) ?_;refine vv (au E E (dS (cs:=BX.cells x) (Rd.yB (St.ord 7 yN E) (λ_ _ h=>dh (enc:=BX.cells) (sz:=6) (λ_=>E) hx h)))) ?_;refine gB yN gu ?_;intro aoA asK LV;refine zQ ?_;refine sa 0 LV kQ ?_;intro abp ED;refine zN 7 ?_;by_cases aKU:x.b.role=1
   ·refine zN 11 ?_;have Gw:=ED.eG [7,7,7,7,7,7,7];have aw4:=Wd.dP (m:=mm) (m':=mm) (H:=hwl ws++H) (H':=hwl ws++H) (fs:=(.blk aoA (bR x.b x.A x.c) 42)::(.own 42 6 (.slice (aD wB 0) 4 I) 4 ((ws).flatMap BX.cells))::fs) (X':=X3) (z':=z3) (Ls:=[]) (fA:=R3.fA) (fc:=R3.fc) (fx:=R3.fx) (sA:=R3.sA) (sc:=R3.sc) (tA:=R3.tA) (tc:=R3.tc) (rr:=(.blk aoA (bR x.b x.A x.c) 42)::(.own 42 6 (.slice (aD wB 0) 4 I) 4 ((ws).flatMap BX.cells))::rr3) hkn iC (by rw[<-Jo];rfl) G3 hn Gw T9.more (λu hu=>.inl hu) (aC Ua).symm G3.fly.symm mI;refine dO eQ (JQ hn hkn iC hu (by rw[Xq];exact hB1) Y J aw4 (by rw[Ua];exact Z) (Xt n M)) ?_;rintro _ aDs ⟨rfl,amY⟩;refine⟨_,E,?_⟩;have Nz:=FZ mm n M (Xt);have hrs:=(FP (n:=n) (q:=M) mm (by rw[Ua];exact kF (jB (Z M J)))).2;obtain⟨mc,hmc⟩:∃k,k=mm.recover n M:=⟨_,E⟩;rw[<-hmc]at amY Nz hrs;obtain⟨R5,G5,S05⟩:=amY.open hn;have NG5:=G5.iE n hn;obtain⟨X5,hX5⟩:∃X,mc.ah n=X:=⟨_,E⟩;obtain⟨z5,hz5⟩:∃z,R5.nx n=z:=⟨_,E⟩;rw[hX5,hz5]at S05 NG5;obtain⟨rr5,auR⟩:∃r,gD K R5 mc fs n=r:=⟨_,E⟩;have aKV:R5.fx.length=mc.fly.length:=by rw[<-G5.fly,length_map]
    have WQ:St B w0 aDs (cN kn n X5 z5 z5.pv (cF kw R5 mc ((.blk aoA (bR x.b x.A x.c) 42)::(.own 42 6 (.slice (aD wB 0) 4 I) 4 ((ws).flatMap BX.cells))::rr5))):=by rw[<-auR];subst hkn;subst iC;exact S05
    clear S05;have aw5:=(WQ.own 1 E).1;rw[iG (sz:=6) (λ_=>E)]at aw5;obtain⟨y5,hy5,aKW,aKX⟩:=NG5.at_ J;refine zN 3 ?_;have W9:=WQ.drew;refine fK 8 6 W9 [] ?_;iterate 6 refine gU ?_
    refine fu kQ E E E ?_;refine vv (kZ M) ?_;refine l7 (xs':=(z5.bx.set M (⟨x.b,x.A,x.c⟩:BX)).flatMap BX.cells) 1 W9 (wn E) E E E E E E wX E (bP E) (by omega) (by rw[Nat.zero_add];exact qL (enc:=BX.cells) (sz:=6) (λ_=>E) (⟨x.b,x.A,x.c⟩:BX) _ _ (by omega)) ?_;intro aB2 IW;have hy153:(z5.bx.set M (⟨x.b,x.A,x.c⟩:BX))[M]? =some (⟨x.b,x.A,x.c⟩:BX):=getElem?_set_self Y;refine zQ ?_;refine iX ?_;refine zN 5 ?_;refine vv (v:=.agg #[D 4,D 0,D 0,D 0,D 0,D 0]) gG ?_;refine zQ ?_;refine dO eQ (nP hn J hy153 aF eT (-1) IW Y) ?_;rintro _ aDt ⟨rfl,aDu,aDv,aFW,aw6,aDw⟩;refine⟨_,E,?_⟩;subst aw6;have NT:=aDw.aO [7];have hr1:((bg X.data X.syn) M).role=1:=ahb hxs Y;have hxb:x.b=iy ((bg X.data X.syn) M):=by rw[hxs,if_pos ⟨J,hr1⟩,(hwo M J hr1).2]
    obtain⟨md,hmd⟩:∃k,k=(mc.aA n M x.b).tell n M aF eT (-1):=⟨_,E⟩;have aDx:md=((mm.recover n M).aA n M (dK ((bg X.data X.syn) M)).1).tell n M aF eT (-1):=by rw[hmd,hmc,hxb,(hwo M J hr1).2]
    have ado:md={mc.put n (X5.aA M x.b)with aV:=mc.aV++[⟨n,M,x.b.ep,aF,eT,-1⟩],shown:=iw mc.shown n M (x.b.ep,(x.b.evs.length:Int))}:=by rw[hmd];exact adl hX5
    have aDy:md.fly=mm.fly:=by rw[ado];exact Nz.2.1
    have hnm:(mc.ah n)=X3:=by rw[Nz.1,Ua]
    have auS:X5=X3:=by rw[<-hX5];exact hnm
    have auT:md.ah n=X5.aA M x.b:=by rw[ado];exact aW _
    have aDz:∀j,j<4->aj ((md.ah n).bs j)=0:=λj hj=>by rw[auT];exact ak8 (by rw[auS];exact Z) (by rw[hxb];exact(hwo M J hr1).1) j hj
    have aDA:∀j,M+1<=j->j<4->(md.ah n).bs j=(bg X.data X.syn) j:=λj h1 h2=>by rw[auT,auS];exact(upd_ne Y).trans (Xr j Y h2)
    have aDB:∀a b,0<=(md.shown a b).2:=by rw[ado];exact Jm (a:=n) (q:=M) (e:=x.b.ep) (l:=x.b.evs) Nz.2.2
    have aKY:md.aV.length=mc.aV.length+1:=by rw[ado];exact length_append ..
    clear hmd;have amZ:Wd K B w0 aDt ((.own 42 6 (.slice (aD wB 0) 4 I) 4 ((ws).flatMap BX.cells))::fs) md (hwl ws++H):=by
     rw[ado];exact Wd.dP (m:=mc) (H:=hwl ws++H) (fs:=(.own 42 6 (.slice (aD wB 0) 4 I) 4 ((ws).flatMap BX.cells))::fs) (X':=X5.aA M x.b) (z':={z5 with bx:=z5.bx.set M (⟨x.b,x.A,x.c⟩:BX)}) (Ls:=[]) (fA:=R5.fA) (fc:=R5.fc) (fx:=R5.fx) (sA:=aDu) (sc:=aDv) (tA:=R5.tA) (tc:=R5.tc) (rr:=(.own 42 6 (.slice (aD wB 0) 4 I) 4 ((ws).flatMap BX.cells))::rr5) hkn iC (by rw[<-auR];rfl) G5 hn NT (dY.amW (dB:=x) NG5.more J (aru G5.hld hx).more) (λu hu=>.inl hu) E G5.fly.symm mI
    refine zN 4 ?_;refine vv (v:=D ((M+1:Nat):Int)) jc ?_;refine zN 2 ?_;refine bQ (M+1,md) ?_ zZ (by first|omega|(dsimp only;omega));exact⟨amZ,(by dsimp only;rw[Xp,nL J];exact YV hr1 aDx),uQ,(by dsimp only;rw[aDy];exact Xq),(by dsimp only;exact aDz),(by dsimp only;exact aDA),(by dsimp only;exact aDB),uQ,(Wd.Ii (gs:=[.own 42 6 (.slice (aD wB 0) 4 I) 4 ((ws).flatMap BX.cells)]) amZ)⟩
   refine zN 9 ?_;refine vv (v:=D ((M+1:Nat):Int)) jc ?_;refine zN 2 ?_;have IX:=ED.aO [0];have Xu:=Wd.dP (m:=mm) (m':=mm) (H:=hwl ws++H) (H':=hwl ws++H) (fs:=(.own 42 6 (.slice (aD wB 0) 4 I) 4 ((ws).flatMap BX.cells))::fs) (X':=X3) (z':=z3) (Ls:=[]) (fA:=R3.fA) (fc:=R3.fc) (fx:=R3.fx) (sA:=R3.sA) (sc:=R3.sc) (tA:=R3.tA) (tc:=R3.tc) (rr:=(.own 42 6 (.slice (aD wB 0) 4 I) 4 ((ws).flatMap BX.cells))::rr3) hkn iC (by rw[<-Jo];rfl) G3 hn IX T9.more (λu hu=>.inl hu) (aC Ua).symm G3.fly.symm mI;have hro:¬((bg X.data X.syn) M).role=1:=aha (hwo M J) hxs ‹_›;refine bQ (M+1,mm) ?_ zZ (by first|omega|(dsimp only;omega));exact⟨Xu,(by dsimp only;rw[Xp,nL J];exact YU hro),uQ,Xq,(by dsimp only;rw[Ua];exact Z),(by dsimp only;rw[Ua];exact λj h1 h2=>Xr j Y h2),Xt,uQ,(Wd.Ii (gs:=[.own 42 6 (.slice (aD wB 0) 4 I) 4 ((ws).flatMap BX.cells)]) Xu)⟩
  refine zN 10 ?_;have zl:m.start n=mm:=by rw[adn hX ‹_› (by rw[hP1];exact hwA),<-hm1,Xp,drop_eq_nil_of_le (by rw[length_range];omega)];rfl
  rw[zl];exact⟨E,ahd (Wd.less (gs:=[.own 42 6 (.slice (aD wB 0) 4 I) 4 ((ws).flatMap BX.cells)]) ad1)⟩
 refine bH (l':=[(0,pV kw 0),(1,pV kn 0),(18,.bool true)]) Fb (ku E (oD (ig (dX (rs:=[]) (vs:=[]) E trivial ?_))));have zl:m.start n=m:=ahc (by rw[hX];assumption);rw[zl];exact⟨E,Wd.dP (X':=X) (z':=z) (Ls:=[]) (fA:=R.fA) (fc:=R.fc) (fx:=R.fx) (sA:=R.sA) (sc:=R.sc) (tA:=R.tA) (tc:=R.tc) hkn iC hrr G hn S NG.more (λu hu=>.inl hu) (aC hX).symm G.fly.symm mI⟩
section
variable {X:Nd}{m:Cl}{n k q:Nat}{p:bO}
def GL.kX (h:GL X):∀q,q<4->aj (X.bs q)=0:=by
 rcases h with⟨_,rs,us,h⟩|⟨_,rs,t,f,h⟩
 ·exact h.kX
 exact h.bz
def GL.tp (h:GL X):∃rs t f,X.data=bI rs++t/\(firstM t).2=0/\iJ rs f/\(∀q,q<4->aj (f q)=0)/\X.data.length<=100000/\0<=X.syn/\X.syn<=X.data.length:=by
 rcases h with⟨_,rs,us,h⟩|⟨_,rs,t,f,h⟩
 ·have J:=h.data;have Z:=congrArg length J;rw[lW,length_append]at Z;have hs:=h.syn
  cases M:X.pend with
  |none=>
   have hu:=h.rz M;refine⟨rs,[],_,by rw[J,hu,append_nil,append_nil],xR,h.tape,λq I=>(V4 h.kX I).1,h.len,by omega,by omega⟩
  |some p=>
   obtain⟨h1,h2,h3⟩:=h.FN p M;obtain⟨O,h5⟩:=iL h.tape h.kX h2 h3;rw[<-h1]at O;refine⟨rs++us,[],_,by rw[J,append_nil],xR,O,λq I=>?_,h.len,by omega,by omega⟩;refine uL ?_;by_cases e:q=p.q
   ·rw[e,upd_same];exact h5
   rw[upd_ne e];exact h.kX q I
 exact⟨rs,t,f,h.data,h.at6,h.tape,λq I=>(h.kX q I).1,h.len,h.syn.1,h.syn.2⟩
def GL.may (h:GL X):dw X.data X.syn=true:=by
 obtain⟨rs,t,f,_,_,_,_,h1,I,J⟩:=h.tp;simp only[dw,Bool.and_eq_true,decide_eq_true_eq];exact⟨⟨h1,I⟩,J⟩
def GL.aDC (h:GL X){rs:List cB}{d:List UInt8}(hw:fB X.data X.syn rs=some d):dw d X.syn=true:=by
 obtain⟨_,_,_,_,_,_,_,h1,O,Z⟩:=h.tp;obtain⟨I,_,J⟩:=qx hw;have:=J h1;have M:=congrArg length I;rw[length_append]at M;simp only[dw,Bool.and_eq_true,decide_eq_true_eq];omega
def GL.fit (h:GL X)(J:X.pend=some p):p.fit/\dw X.data X.syn=true:=by
 refine⟨?_,h.may⟩
 rcases h with⟨_,rs,us,h⟩|⟨_,rs,t,f,h⟩
 ·obtain⟨h1,M,I⟩:=h.FN p J;obtain⟨Z,O⟩:=iL h.tape h.kX M I
  cases p with
  |serve q evs op num a=>exact⟨I,kF M.2.2.2⟩
  |begun q b=>exact I
  |got q b last=>exact I
  |fF q b at_=>exact⟨I,O⟩
  |forget q b=>exact I
 rw[h.lF]at J;cases J
def Ql {s:Int}{f:Nat->aQ}:∀(I:List Nat) {d d':List UInt8},eF s f I d=some d'->d.length<=d'.length/\(d.length<=100000->d'.length<=100000)
 |[],d,d',h=>by cases h;exact⟨Nat.le_refl _,id⟩
 |q::r,d,d',h=>by
  rw[eF]at h
  split at h
  ·exact Ql r h
  split at h
  ·cases h
  split at h
  ·cases h
  rename_i d2 hw
  obtain⟨J,_,M⟩:=qx hw;obtain⟨h1,O⟩:=Ql r h;rw[J,length_append]at h1;exact⟨by omega,λZ=>O (M Z)⟩
def aaf:∀(rs:List cB),6*rs.length<=(bI rs).length
 |[]=>by simp[bI]
 |r::rs=>by
  have h1:=(Av r).1;have h:=aaf rs;have e:bI (r::rs)=mF r++bI rs:=by simp[bI,flatMap_cons]
  rw[e,length_append,length_cons];omega
def GL.RH (h:GL X):CZ X.data X.syn=some (vB (bg X.data X.syn))/\(∀q,q<4->aj (bg X.data X.syn q)=0)/\(uI (jA X.data X.syn).1 (jA X.data X.syn).2.1).1.length*80<=reachBytes/\
  (∀d,eF (jA X.data X.syn).2.1 (bg X.data X.syn) [0,1,2,3] (jA X.data X.syn).1=some d->dw d (jA X.data X.syn).2.1=true):=by
 obtain⟨rs,t,f,J,ht,M,hb,h1,h2,h3⟩:=h.tp;obtain⟨O,r2,Z⟩:=M.read J ht h1 h2 h3;have hl:(bI rs).length<=X.data.length:=by rw[J,length_append];omega
 have hg:=aaf rs;refine⟨by rw[r2,Az λq I=>(Z q I).symm],λq I=>by rw[Z q I];exact hb q I,?_,λd hw=>?_⟩
 ·rw[O];unfold uI;rw[if_pos (by simp[dw];omega)];have:=yQ (t:=[]) M.1 xR;rw[append_nil]at this;dsimp only;rw[this];unfold reachBytes;dsimp only;omega
 rw[O]at hw⊢;obtain⟨g1,g2⟩:=Ql _ hw;dsimp only at g1 g2 hw⊢;have g3:=g2 Y;simp only[dw,Bool.and_eq_true,decide_eq_true_eq];omega
def jM.tgt {l:bG}(h:jM l):∃j,j<5/\(l.tg= -1\/l.tg= -2\/l.tg=((j:Nat):Int)):=by
 obtain⟨_,_,h1|h1|h1,_⟩:=h
 ·exact⟨0,by omega,.inl h1⟩
 ·exact⟨0,by omega,.inr (.inl h1.1)⟩
 exact⟨l.tg.toNat,by omega,.inr (.inr Y)⟩
def bY.fl {T S dV K:Nat}(h:bY m T S dV K):m.fly.length<=T:=by
 have:=OJ m (n:=0) Y;have:=h.room;omega
def bY.il {T S dV K:Nat}(h:bY m T S dV K)(hn:n<5):(m.ah n).inbox.length<=T:=by
 have:=OJ m hn;have:=h.room;omega
def bY.fi {T S dV K:Nat}(h:bY m T S dV K)(hn:n<5):m.fly.length+(m.ah n).inbox.length<=T:=by
 have:=OJ m hn;have:=h.room;omega
end
def ShN (m:Cl):Prop:= ∀a b,0<=(m.shown a b).2
section
variable {m m':Cl}{n q:Nat}{l:bG}
def ShN.of (h:ShN m)(e:m'.shown=m.shown):ShN m':=λa b=>by rw[e];exact h a b
def ShN.tell {e:Ev}{a:iR}{u:Int}(h:ShN m):ShN (m.tell n q e a u):=Jm h
def ShN.done {op:Ev}{u:Int}{a:iR}(h:ShN m):ShN (m.done n q op u a):=by
 unfold Cl.done
 split
 ·exact(h.tell (n:=n) (q:=q) (e:=op) (a:=a) (u:=u)).of E
 exact h.of E
def ShN.part {a:Int}(h:ShN m):ShN (m.part n q a):=by
 unfold Cl.part
 split
 ·exact h
 exact h.of E
def ShN.serve (h:ShN m):ShN (m.serve n l):=by
 unfold Cl.serve
 split
 ·exact h.done
 split
 ·exact h.done
 exact h.of E
def ShN.handle (h:ShN m):ShN (m.handle n l):=by
 unfold Cl.handle
 split
 ·exact h.serve
 split
 ·unfold Cl.offered
  split
  ·exact h
  split
  ·exact h.of E
  split
  ·exact h
  exact h.of E
 split
 ·unfold Cl.caught
  split
  ·exact h
  split
  ·exact h
  split
  ·exact ShN.part (h.of E)
  split
  ·exact h
  exact h.of E
 split
 ·unfold Cl.got
  split
  ·exact h
  split
  ·exact h.of E
  split
  ·exact h
  split
  ·exact h
  exact h.of E
 unfold Cl.learnt
 split
 ·exact h.of E
 split
 ·exact h.of E
 exact h.of E
def ShN.drain:∀(ls:List bG) {m:Cl},ShN m->ShN (Cl.drain n ls m)
 |[],m,h=>h
 |l::r,m,h=>by
  rw[Cl.drain];have h1:ShN ((m.put n {m.ah n with inbox:=r}).handle n l):=ShN.handle (h.of E)
  split
  ·exact ShN.drain r h1
  exact h1
def ShN.xS {p:bO}(h:ShN m):ShN (m.xS n p):=by
 cases p with
 |serve q evs op num a=>exact ShN.done (h.of E)
 |begun q b=>exact h.of E
 |got q b last=>
  unfold Cl.xS;dsimp only
  split
  ·exact ShN.tell (h.of E)
  exact h.of E
 |fF q b a=>exact ShN.part (h.of E)
 |forget q b=>exact h.of E
def ShN.step (h:ShN m):ShN (m.step n):=by
 unfold Cl.step
 split
 ·exact h
 split
 ·exact ShN.xS (h.of E)
 split
 ·exact(h.drain _).of E
 exact h.drain _
def ShN.come (h:ShN m):ShN (m.come l):=by
 unfold Cl.come
 split
 ·exact h.of E
 split
 ·split<;>exact h.of E
 split
 ·exact h.of E
 exact h
def ShN.comes:∀(ls:List bG) {m:Cl},ShN m->ShN (ls.foldl Cl.come m)
 |[],_,h=>h
 |_::ls,_,h=>ShN.comes ls h.come
def ShN.recover (h:ShN m):ShN (m.recover n q):=(FZ m n q h).2.2
def ShN.woken {bs:Nat->aQ}:∀(I:List Nat) {m:Cl},ShN m->ShN (Cl.woken n bs I m)
 |[],_,h=>h
 |q::r,m,h=>by
  rw[Cl.woken]
  split
  ·exact ShN.woken r h
  exact ShN.woken r (ShN.tell ((h.recover (n:=n) (q:=q)).of E))
def ShN.act {a:Ac}(h:ShN m):ShN (m.act a):=by
 unfold Cl.act
 split
 ·unfold Cl.make
  split
  ·exact h
  split
  ·exact h
  split
  ·exact h
  exact Jm (l:=[]) h
 split
 ·exact h.of E
 split
 ·exact h.step
 split
 ·unfold Cl.pick
  split
  ·exact h
  dsimp only
  split
  ·refine ShN.come ?_
   split
   ·exact h
   exact h.of E
  split
  ·exact h
  exact h.of E
 split
 ·exact ShN.comes _ (h.of E)
 split
 ·unfold Cl.crash
  split
  ·exact h.of E
  exact h
 split
 ·unfold Cl.start
  split
  ·exact h
  split
  ·exact h
  exact ShN.woken _ (h.of E)
 unfold Cl.move
 split
 ·exact h
 split
 ·exact h.of E
 exact h
end
section
variable {m mm:Cl}{n q k:Nat}{a:Ac}{PW:Pl×Int}{T S dV K:Nat}{x:bG}{fl:List bG}
def ala (h:aI m.off q=PW):∃nn,nn<5/\(PW.2=0->PW.1.node=((nn:Nat):Int)):=by
 subst h;by_cases c:(aI m.off q).2=0
 ·obtain⟨h1,I,_⟩:=nI (λh=>h c);exact⟨_,h1,λ_=>by omega⟩
 exact⟨0,by omega,λh=>absurd h c⟩
def ahe (h:bY m T S dV K):bY {m with fly:=[]} (T+0) S (dV+0) K:=by
 refine⟨h.iE,λl I=>(by simp at I),h.iO,?_,h.aV,h.bK,h.turn,h.calls⟩;have:=h.room;unfold Cl.tot at this⊢;dsimp only[length_nil];omega
def ahf (h:fl[k]? =some x):(fl.drop k).foldl Cl.come mm=(fl.drop (k+1)).foldl Cl.come (mm.come x):=by rw[drop_cons h,foldl_cons]
def ahg (h:a.kd=1)(hn:a.nd=((n:Nat):Int))(I:a.qu=((q:Nat):Int)):m.act a=m.make n q:=by
 unfold Cl.act;rw[if_pos h,hn,I,Int.toNat_natCast,Int.toNat_natCast]
def ahh (h:a.kd=2)(I:a.qu=((q:Nat):Int)):m.act a={m with fly:=m.fly++[vQ a.nd q a.op m.calls],calls:=m.calls+1}:=by
 unfold Cl.act;rw[if_neg Y,if_pos h,I,Int.toNat_natCast]
def ahi (h:a.kd=3)(hn:a.nd=((n:Nat):Int)):m.act a=m.step n:=by
 unfold Cl.act;rw[if_neg Y,if_neg Y,if_pos h,hn,Int.toNat_natCast]
def Kw (h:a.kd=4\/a.kd=5\/a.kd=6):m.act a=m.pick a.at_.toNat (decide (a.kd≠5)) (decide (a.kd=6)):=by
 unfold Cl.act;rw[if_neg Y,if_neg Y,if_neg Y,if_pos h]
def alb (h:a.kd=4):m.act a=m.pick a.at_.toNat true false:=by rw[Kw (.inl h),h];rfl
def alc (h:a.kd=5):m.act a=m.pick a.at_.toNat false false:=by rw[Kw (.inr (.inl h)),h];rfl
def ald (h:a.kd=6):m.act a=m.pick a.at_.toNat true true:=by rw[Kw (.inr (.inr h)),h];rfl
def ale (h:a.kd=7):m.act a=m.all:=by
 unfold Cl.act;rw[if_neg Y,if_neg Y,if_neg Y,if_neg Y,if_pos h]
def Pb (h:a.kd=8)(hn:a.nd=((n:Nat):Int)):m.act a=m.crash n a.kp:=by
 unfold Cl.act;rw[if_neg Y,if_neg Y,if_neg Y,if_neg Y,if_neg Y,if_pos h,hn,Int.toNat_natCast]
def adp (h:a.kd=9)(hn:a.nd=((n:Nat):Int)):m.act a=m.start n:=by
 unfold Cl.act;rw[if_neg Y,if_neg Y,if_neg Y,if_neg Y,if_neg Y,if_neg Y,if_pos h,hn,Int.toNat_natCast]
def adq (h:a.kd≠1)(I:a.kd≠2)(J:a.kd≠3)(h4:a.kd≠4)(h5:a.kd≠5)(h6:a.kd≠6)(M:a.kd≠7)(O:a.kd≠8)(Z:a.kd≠9)(hq:a.qu=((q:Nat):Int)):m.act a=m.move q a.nd:=by
 unfold Cl.act;rw[if_neg h,if_neg I,if_neg J,if_neg Y,if_neg M,if_neg O,if_neg Z,hq,Int.toNat_natCast]
def ahj (h:(m.ah n).up=true){kp:Int}:m.crash n kp=m.put n ((m.ah n).crashed kp):=if_pos h
def adr (h:(m.ah n).up=false){kp:Int}:m.crash n kp=m:=by
 unfold Cl.crash;rw[if_neg (by rw[h];simp)]
end
def ahk {K:CK} {B n kn kw:Nat} {w0 w:World} {fs:List Fact} {m:Cl} {H:List LX} {q k:Nat} {a:Ac} (hn:n<5) (hq:q<4) (hnd:a.nd=((n:Nat):Int)) (hqd:a.qu=((q:Nat):Int)) (J:K.nb n=kn) (M:K.wb=kw) (O:Uk B w0) (HW:Wd K B w0 w fs m H) (I:bY m (4*k) (500000*k) (500000*k) k) (hk:k<=100000) (ha:vG a) (hsh:ShN m):
    Calls prog 25 #[pV kw 0,.agg (aR a)] w (λe w'=>e=.returned (.tuple #[])/\Wd K B w0 w' fs (m.act a) H):=by
 obtain⟨R,G,S0⟩:=HW.open hn;have hfl:R.fx.length=m.fly.length:=by rw[<-G.fly,length_map]
 have NG:=G.iE n hn;obtain⟨X,hX⟩:∃X,m.ah n=X:=⟨_,E⟩;obtain⟨z,hz⟩:∃z,R.nx n=z:=⟨_,E⟩;rw[hX,hz]at S0 NG;have hL:∀f∈R.L,f∈gD K R m fs n:=λf h=>mem_append_right _ (mem_append_right _ h);obtain⟨rr,Z⟩:∃r,gD K R m fs n=r:=⟨_,E⟩;rw[Z]at S0 hL;have S:St B w0 w ((bN kn n X.up z.tA X.data z.tc X.syn z.bb X.hints X.sure z.iA z.ix z.ic z.pv X.turn)::(oB z.bb z.bx)::(fL z.iA z.ix z.ic)::(bW kw (.slice R.nA 5 R.nc) m.off R.fA R.fx R.fc m.shown R.sA m.aV R.sc R.tA m.bK R.tc m.calls)::(oL R.fA R.fx R.fc)::(oS R.sA m.aV R.sc)::(oT R.tA m.bK R.tc)::rr):=by subst J;subst M;exact S0
 clear S0 HW;have hlen:=(S.own 1 E).1;rw[iG (sz:=6) (λ_=>E)]at hlen;obtain⟨ab,ao,qP⟩:=Ca G.arr S (memT 7 E hL);have harr:=G.arr;rw[qP]at S harr;have hcl:=I.calls;have aKZ:=I.fl;have aoB:a.at_=((a.at_.toNat:Nat):Int):=by have:=ha.at_;omega
 refine gK 144 func25 ?_;refine cw [0,1] ?_;refine zN 2 ?_;refine iP S ?_;intro b1 w2 S3;refine zN 11 ?_;by_cases h4:a.kd=1
 ·refine zN 5 ?_;have S5:St B w0 w2 [.blk b1 (aR a) 51]:=S3.sub (Sublist.cons_cons _ (nil_sublist _));have Ww:=S3.drew;have S6:=S5.drew;refine aJ 12 S6 [] ?_;refine aL 5 ?_;refine ak (v:=D ((n:Nat):Int)) 6 E S6 (λ_ aoi=>(Cb hnd (au E E (aK (St.cl 0 aoi E E))))) ?_;refine dR ?_;refine ak (v:=D ((q:Nat):Int)) 10 E S6 (λ_ anq=>(Cb hqd (au E E (aK (St.cl 0 anq E E))))) ?_;refine aY 4 ?_;refine je (i:=4) E E (v:=.slice (aD ab ao) 5 R.nc) (wn E) E E (au E E (aK (St.cl 4 Ww E zX))) ?_;refine dR ?_;refine ak 7 E S6 (λ_ _=>kZ n) ?_;refine aY 8 ?_;refine je (i:=8) E E (v:=pV kn 0) (wn E) E E (au E E (aK (J▸vN harr hn Ww (memT 8 E hL)))) ?_;refine dR ?_;refine aY 11 ?_;have qK:=Ww.eG [7,7,7,7,7,7,7];have qO:=qK;rw[<-qP]at qO;have aon:=Wd.dP (m:=m) (m':=m) (H:=H) (H':=H) (fs:=(.blk b1 (aR a) 51)::fs) (X':=X) (z':=z) (Ls:=[]) (fA:=R.fA) (fc:=R.fc) (fx:=R.fx) (sA:=R.sA) (sc:=R.sc) (tA:=R.tA) (tc:=R.tc) (rr:=(.blk b1 (aR a) 51)::rr) J M (by rw[<-Z]<;>rfl) G hn qO NG.more (λu O=>.inl O) (aC hX).symm G.fly.symm mI;refine kD 11 E eQ (YS hn J M O (by have:=I.fl;omega) (by have:=I.aV;omega) hq aon (I.iE n hn).kX (λrs d h=>(I.iE n hn).aDC h)) ?_;rintro _ Zz ⟨rfl,auU⟩;refine⟨_,E,?_⟩;have uV:=Wd.Ii (gs:=[.blk b1 (aR a) 51]) auU;refine aL 2 ?_;refine bU (l':=[]) trivial (gF (oP ?_));rw[ahg ‹_› hnd hqd];exact⟨E,(Wd.less (gs:=[.blk b1 (aR a) 51]) auU)⟩
 refine zN 7 ?_;by_cases h22:a.kd=2
 ·refine zN 6 ?_;have uF:=S3.eG [5,5];have jP:=uF.drew;refine aJ 14 jP [1,0] ?_;refine aL 4 ?_;refine ak (v:=D ((q:Nat):Int)) 4 E (jP.oU [1,0]) (λ_ ac3=>(Cb hqd (au E E (aK (St.cl 0 ac3 E E))))) ?_;refine dR ?_;refine ak (v:=.agg #[D a.ek,D a.ep,D a.ei,D a.eb,D a.eh,D a.en]) 6 E (jP.oU [1,0]) (λ_ aa9=>(au E E (dS (cs:=[D a.ek,D a.ep,D a.ei,D a.eb,D a.eh,D a.en]) (St.rg 0 aa9 E (oK (x:=5) (m:=6) E))))) ?_;refine aL 4 ?_;refine aY 11 ?_;refine je (i:=11) E E (v:=D ((m.calls:Nat):Int)) (wn E) E E (au E E (aK (St.cl 0 jP E amx))) ?_;refine dR ?_;refine ak (v:=.agg #[D 0,D (-1),D a.nd,D ((q:Nat):Int),D 0,D 0,D 0,D a.ek,D a.ep,D a.ei,D a.eb,D a.eh,D a.en,.slice none 0 0,.bool false,D ((m.calls:Nat):Int),D 0,D 0,D 0,D 0,D 0,D 0,D 0]) 12 E (jP.oU [1,0]) (λ_ _=>gG) ?_;refine aY 13 ?_;refine kD 13 E eQ (gV (x:=⟨vQ a.nd q a.op m.calls,none,0⟩) jP (by have:=I.fl;omega)) ?_;rintro _ w41 ⟨rfl,A37,c38,atT,an4,Cx⟩;refine⟨_,E,?_⟩;refine aL 2 ?_;refine zN 6 ?_;refine vv (au E E (aK (St.cl 0 Cx E amx))) ?_;refine vv (v:=D ((m.calls+1:Nat):Int)) jc ?_;refine zN 3 ?_;refine jF 0 Cx kQ ?_ (hs:=by exact awc);intro w43 Fw;refine zQ ?_;refine bU (l':=[]) trivial (gF (oP ?_));rw[ahh ‹_› hqd];subst an4;have qC:=Fw.aO [2];have wP:=qC.eG [6,6,3,3,6,6,6];rw[<-qP]at wP;exact⟨E,Wd.dP (X':=X) (z':=z) (Ls:=[]) (fA:=A37) (fc:=c38) (fx:=R.fx++[(⟨vQ a.nd q a.op m.calls,none,0⟩:LX)]) (sA:=R.sA) (sc:=R.sc) (tA:=R.tA) (tc:=R.tc) J M Z G hn wP NG.more (oW (iW E)) (aC hX).symm (by rw[map_append,G.fly];rfl) mI⟩
 refine zN 7 ?_;by_cases h47:a.kd=3
 ·refine zN 5 ?_;have Al:St B w0 w2 [.blk b1 (aR a) 51]:=S3.sub (Sublist.cons_cons _ (nil_sublist _));have Ww:=S3.drew;have xO:=Al.drew;refine aJ 10 xO [] ?_;refine aL 5 ?_;refine ak (v:=D ((n:Nat):Int)) 6 E xO (λ_ an6=>(Cb hnd (au E E (aK (St.cl 0 an6 E E))))) ?_;refine aY 4 ?_;refine je (i:=4) E E (v:=.slice (aD ab ao) 5 R.nc) (wn E) E E (au E E (aK (St.cl 4 Ww E zX))) ?_;refine dR ?_;refine ak 7 E xO (λ_ _=>kZ n) ?_;refine aY 8 ?_;refine je (i:=8) E E (v:=pV kn 0) (wn E) E E (au E E (aK (J▸vN harr hn Ww (memT 8 E hL)))) ?_;refine dR ?_;refine aY 9 ?_;have vJ:=Ww.eG [7,7,7,7,7,7,7];have BJ:=vJ;rw[<-qP]at BJ;have aDD:=Wd.dP (m:=m) (m':=m) (H:=H) (H':=H) (fs:=(.blk b1 (aR a) 51)::fs) (X':=X) (z':=z) (Ls:=[]) (fA:=R.fA) (fc:=R.fc) (fx:=R.fx) (sA:=R.sA) (sc:=R.sc) (tA:=R.tA) (tc:=R.tc) (rr:=(.blk b1 (aR a) 51)::rr) J M (by rw[<-Z]<;>rfl) G hn BJ NG.more (λu O=>.inl O) (aC hX).symm G.fly.symm mI;refine kD 9 E eQ (YR hn J M O (by have:=I.fi hn;omega) (by have:=I.aV;have:=I.il hn;omega) (by have:=I.turn n hn;omega) aDD (I.iE n hn).kX (λl hl=>l9 (I.iO n hn l hl)) (λp h=>(I.iE n hn).fit h)) ?_;rintro _ w61 ⟨rfl,auV⟩;refine⟨_,E,?_⟩;have JC:=Wd.Ii (gs:=[.blk b1 (aR a) 51]) auV;refine aL 2 ?_;refine bU (l':=[]) trivial (gF (oP ?_));rw[ahi ‹_› hnd];exact⟨E,(Wd.less (gs:=[.blk b1 (aR a) 51]) auV)⟩
 refine zN 8 ?_;by_cases h63:a.kd=4
 ·refine zN 11 ?_;refine vv (v:=D ((a.at_.toNat:Nat):Int)) (Cb aoB (au E E (aK (St.cl 0 S3 E E)))) ?_;refine zN 6 ?_;have S64:=S3.eG [7,7,7,7,7,7,7];have Hz:=S64;rw[<-qP]at Hz;have aDE:=Wd.dP (m:=m) (m':=m) (H:=H) (H':=H) (fs:=(.blk b1 (aR a) 51)::fs) (X':=X) (z':=z) (Ls:=[]) (fA:=R.fA) (fc:=R.fc) (fx:=R.fx) (sA:=R.sA) (sc:=R.sc) (tA:=R.tA) (tc:=R.tc) (rr:=(.blk b1 (aR a) 51)::rr) J M (by rw[<-Z]<;>rfl) G hn Hz NG.more (λu O=>.inl O) (aC hX).symm G.fly.symm mI;refine dO eQ (DT hn J M O (by have:=I.fl;omega) (by have:=I.bK;omega) (λj hj=>by have:=I.il hj;omega) aDE (λl hl=>(I.mR l hl).tgt)) ?_;rintro _ w68 ⟨rfl,auW⟩;refine⟨_,E,?_⟩;have Ak:=Wd.Ii (gs:=[.blk b1 (aR a) 51]) auW;refine zQ ?_;refine bU (l':=[]) trivial (gF (oP ?_));rw[alb ‹_›];exact⟨E,(Wd.less (gs:=[.blk b1 (aR a) 51]) auW)⟩
 refine zN 7 ?_;by_cases h70:a.kd=5
 ·refine zN 11 ?_;refine vv (v:=D ((a.at_.toNat:Nat):Int)) (Cb aoB (au E E (aK (St.cl 0 S3 E E)))) ?_;refine zN 6 ?_;have sS:=S3.eG [7,7,7,7,7,7,7];have tV:=sS;rw[<-qP]at tV;have aDF:=Wd.dP (m:=m) (m':=m) (H:=H) (H':=H) (fs:=(.blk b1 (aR a) 51)::fs) (X':=X) (z':=z) (Ls:=[]) (fA:=R.fA) (fc:=R.fc) (fx:=R.fx) (sA:=R.sA) (sc:=R.sc) (tA:=R.tA) (tc:=R.tc) (rr:=(.blk b1 (aR a) 51)::rr) J M (by rw[<-Z]<;>rfl) G hn tV NG.more (λu O=>.inl O) (aC hX).symm G.fly.symm mI;refine dO eQ (DT hn J M O (by have:=I.fl;omega) (by have:=I.bK;omega) (λj hj=>by have:=I.il hj;omega) aDF (λl hl=>(I.mR l hl).tgt)) ?_;rintro _ w75 ⟨rfl,auX⟩;refine⟨_,E,?_⟩;have MP:=Wd.Ii (gs:=[.blk b1 (aR a) 51]) auX;refine zQ ?_;refine bU (l':=[]) trivial (gF (oP ?_));rw[alc ‹_›];exact⟨E,(Wd.less (gs:=[.blk b1 (aR a) 51]) auX)⟩
 refine zN 6 ?_;by_cases h77:a.kd=6
 ·refine zN 8 ?_;refine vv (v:=D ((a.at_.toNat:Nat):Int)) (Cb aoB (au E E (aK (St.cl 0 S3 E E)))) ?_;refine zN 6 ?_;have JD:=S3.eG [7,7,7,7,7,7,7];have BK:=JD;rw[<-qP]at BK;have aDG:=Wd.dP (m:=m) (m':=m) (H:=H) (H':=H) (fs:=(.blk b1 (aR a) 51)::fs) (X':=X) (z':=z) (Ls:=[]) (fA:=R.fA) (fc:=R.fc) (fx:=R.fx) (sA:=R.sA) (sc:=R.sc) (tA:=R.tA) (tc:=R.tc) (rr:=(.blk b1 (aR a) 51)::rr) J M (by rw[<-Z]<;>rfl) G hn BK NG.more (λu O=>.inl O) (aC hX).symm G.fly.symm mI;refine dO eQ (DT hn J M O (by have:=I.fl;omega) (by have:=I.bK;omega) (λj hj=>by have:=I.il hj;omega) aDG (λl hl=>(I.mR l hl).tgt)) ?_;rintro _ w82 ⟨rfl,auY⟩;refine⟨_,E,?_⟩;have Dp:=Wd.Ii (gs:=[.blk b1 (aR a) 51]) auY;refine zQ ?_;refine bU (l':=[]) trivial (gF (oP ?_));rw[ald ‹_›];exact⟨E,(Wd.less (gs:=[.blk b1 (aR a) 51]) auY)⟩
 refine zN 7 ?_;by_cases h84:a.kd=7
 ·refine zN 10 ?_;refine vv (au E E (aK (St.cl 4 S3 E Sg))) ?_;refine zN 8 ?_;refine jF 4 S3 kQ ?_ (hs:=by exact an2);intro w85 BM;refine zN 10 ?_;have Gv:=BM.aO [0];have MR:=Gv.nil 119 23;have MQ:=((((((((MR.bring 5 E).bring 7 E).bring 7 E).bring 3 E).bring 7 E).bring 7 E).bring 7 E).bring 7 E);rw[<-qP]at MQ;obtain⟨m1,hm1⟩:∃k,k=({m with fly:=[]}:Cl):=⟨_,E⟩;have HW1:Wd K B w0 w85 ((oL R.fA R.fx R.fc)::fs) m1 (R.fx++H):=by
   rw[hm1];exact Wd.dP (m:=m) (H:=H) (fs:=(oL R.fA R.fx R.fc)::fs) (X':=X) (z':=z) (Ls:=[]) (fA:=none) (fc:=0) (fx:=[]) (sA:=R.sA) (sc:=R.sc) (tA:=R.tA) (tc:=R.tc) (rr:=(oL R.fA R.fx R.fc)::rr) J M (by rw[<-Z];rfl) G hn MQ NG.more (λu O=>by simp at O) (aC hX).symm E (λu O=>(mem_append.1 O).elim (λh=>.inr ((G.flo u h).mono λf hf=>mem_append_left _ hf)) .inl)
  have hB0:=ahe I;rw[<-hm1]at hB0;refine fO (X:=Nat×Cl) (λxv=>[(0,pV kw 0),(90,.slice R.fA R.fx.length R.fc),(91,D ((R.fx.length:Nat):Int)),(92,D ((xv.1:Nat):Int))]) (λxv wr=>(Wd K B w0 wr ((oL R.fA R.fx R.fc)::fs) xv.2 (R.fx.drop xv.1++H))/\(m.fly.foldl Cl.come m1=(m.fly.drop xv.1).foldl Cl.come xv.2)/\(xv.1<=R.fx.length)/\(bY xv.2 (4*k+xv.1) (500000*k) (500000*k+xv.1) k)/\St B w0 wr [.own 119 23 (.slice R.fA R.fx.length R.fc) R.fx.length ((R.fx).flatMap LX.cells)]) (λxv=>R.fx.length-xv.1) (0,m1) ?_ ?_ ?_
  ·exact⟨HW1,E,zero_le _,hB0,Wd.Ii (gs:=[.own 119 23 (.slice R.fA R.fx.length R.fc) R.fx.length ((R.fx).flatMap LX.cells)]) HW1⟩
  ·exact jW
  rintro⟨k2,mm⟩ w90 ⟨aoC,aoD,aDH,ads,QL⟩
  try dsimp only at aoC aoD aDH ads QL
  refine bH (l':=[(0,pV kw 0),(90,.slice R.fA R.fx.length R.fc),(91,D ((R.fx.length:Nat):Int)),(92,D ((k2:Nat):Int))]) jW ?_;obtain⟨R3,G3,Wv⟩:=aoC.open hn;have T9:=G3.iE n hn;obtain⟨X3,Ua⟩:∃X,mm.ah n=X:=⟨_,E⟩;obtain⟨z3,hz3⟩:∃z,R3.nx n=z:=⟨_,E⟩;rw[Ua,hz3]at Wv T9;obtain⟨rr3,Jo⟩:∃r,gD K R3 mm fs n=r:=⟨_,E⟩;have Fz:St B w0 w90 ((bN kn n X3.up z3.tA X3.data z3.tc X3.syn z3.bb X3.hints X3.sure z3.iA z3.ix z3.ic z3.pv X3.turn)::(oB z3.bb z3.bx)::(fL z3.iA z3.ix z3.ic)::(bW kw (.slice R3.nA 5 R3.nc) mm.off R3.fA R3.fx R3.fc mm.shown R3.sA mm.aV R3.sc R3.tA mm.bK R3.tc mm.calls)::(oL R3.fA R3.fx R3.fc)::(oS R3.sA mm.aV R3.sc)::(oT R3.tA mm.bK R3.tc)::(oL R.fA R.fx R.fc)::rr3):=by rw[<-Jo];subst J;subst M;exact Wv
  clear Wv;refine zN 2 ?_;by_cases h97:((k2:Nat):Int)< ((R.fx.length:Nat):Int)
  ·refine zN 10 ?_;obtain⟨x,hx⟩:∃x,R.fx[k2]? =some x:=⟨_,getElem?_eq_getElem Y⟩;have hxf:m.fly[k2]? =some x.l:=by rw[<-G.fly,getElem?_map,hx];rfl
   have hxb:=I.mR x.l (mem_of_getElem? hxf);refine zQ ?_;obtain⟨fb,fo,hfA⟩:=rd_some (St.ord 7 Fz E) Y;refine vv (v:=pV fb (fo+k2*23)) (bJ E E E (kN k2 hfA underlying91 kQ Y Y)) ?_;refine vv (v:=.agg (LX.row x)) (au E E (dS (cs:=LX.cells x) (λj u O=>by rw[Nat.add_assoc];exact Jl (St.ord 7 Fz E) hfA (dh (enc:=LX.cells) (sz:=23) (k:=k2) (λ_=>E) hx O)))) ?_;refine gB Fz adQ ?_;intro b98 w99 wm;refine stA 0 wm kQ ?_ (h1:=Eh _);intro asI tq;refine zN 5 ?_;have vF:=tq.aO [0];have aw7:=Wd.dP (m:=mm) (m':=mm) (H:=R.fx.drop k2++H) (H':=x::(R.fx.drop (k2+1)++H)) (fs:=(oL R.fA R.fx R.fc)::fs) (X':=X3) (z':=z3) (Ls:=[]) (fA:=R3.fA) (fc:=R3.fc) (fx:=R3.fx) (sA:=R3.sA) (sc:=R3.sc) (tA:=R3.tA) (tc:=R3.tc) (rr:=(oL R.fA R.fx R.fc)::rr3) J M (by rw[<-Jo];rfl) G3 hn ((((((((vF.bring 7 E).bring 7 E).bring 7 E).bring 7 E).bring 7 E).bring 7 E).bring 7 E).bring 7 E) T9.more (λu O=>.inl O) (aC Ua).symm G3.fly.symm (by rw[drop_cons hx];exact mI);obtain⟨jj,hjj,htt⟩:=hxb.tgt;refine dO eQ (DN (m:=mm) (x:=x) hjj E M O (by have:=(ads).fl;omega) (by have:=(ads).bK;omega) (by have:=(ads).il hjj;omega) aw7 htt) ?_;rintro _ abD ⟨rfl,ad2⟩;refine⟨_,E,?_⟩;obtain⟨mc,hmc⟩:∃k,k=mm.come x.l:=⟨_,E⟩;have EI:=Wd.Ii (gs:=[.own 119 23 (.slice R.fA R.fx.length R.fc) R.fx.length ((R.fx).flatMap LX.cells)]) ad2;refine zN 4 ?_;refine vv (v:=D ((k2+1:Nat):Int)) jc ?_;refine zN 2 ?_;refine bQ (k2+1,mc) ?_ jW (by first|omega|(dsimp only;omega));exact⟨(by dsimp only;rw[hmc];exact ad2),(by dsimp only;rw[aoD,ahf hxf,<-hmc]),uQ,(by dsimp only;rw[hmc];exact(GN ads hxb).mono Y (Nat.le_refl _) Y (Nat.le_refl _)),(Wd.Ii (gs:=[.own 119 23 (.slice R.fA R.fx.length R.fc) R.fx.length ((R.fx).flatMap LX.cells)]) (hmc▸ad2))⟩
  refine zN 11 ?_;have zl:m.act a=mm:=by rw[ale ‹_›];show m.fly.foldl Cl.come {m with fly:=[]}=mm;rw[<-hm1,aoD,drop_eq_nil_of_le Y];rfl
  rw[zl];have aDI:R.fx.length<=k2:=Y;exact⟨E,Wd.less (gs:=[.own 119 23 (.slice R.fA R.fx.length R.fc) R.fx.length ((R.fx).flatMap LX.cells)]) (by have h9:=aoC;rw[drop_eq_nil_of_le aDI]at h9;exact h9)⟩
 refine zN 7 ?_;by_cases anL:a.kd=8
 ·refine zN 6 ?_;refine iD S3 mixed kQ ?_;refine zN 3 ?_;refine uv (v:=.slice (aD ab ao) 5 R.nc) (λ_ aw8=>(au E E (aK (St.cl 4 aw8 E zX)))) ?_;refine zQ ?_;refine uv (v:=D ((n:Nat):Int)) (λ_ aw9=>(Cb hnd (au E E (aK (St.cl 0 aw9 E E))))) ?_;refine uv (λ_ _=>kZ n) ?_;refine uv (v:=pV kn 0) (λ_ axa=>(au E E (aK (J▸vN harr hn axa (memT 8 E hL))))) ?_;refine zQ ?_;refine iH λanM xP=>?_;refine zN 9 ?_
  cases aFX:(X.up)
  ·refine bH (l':=[(3,pV b1 0),(7,pV kn 0),(113,.bool false)]) Fb (jm E (mo (gF (oP ?_))));have GA:=xP.aO [0];have zP:=GA;rw[<-qP]at zP;have axb:=Wd.dP (m:=m) (m':=m) (H:=H) (H':=H) (fs:=fs) (X':=X) (z':=z) (Ls:=[]) (fA:=R.fA) (fc:=R.fc) (fx:=R.fx) (sA:=R.sA) (sc:=R.sc) (tA:=R.tA) (tc:=R.tc) (rr:=rr) J M (by rw[<-Z]<;>rfl) G hn zP NG.more (λu O=>.inl O) (aC hX).symm G.fly.symm mI;rw[Pb ‹_› hnd,adr (by rw[hX];assumption)];exact⟨E,axb⟩
  refine bH (l':=[(3,pV b1 0),(7,pV kn 0),(113,.bool true)]) Fb (ku E (aM ?_));have Oc:=xP.drew;refine aJ 14 Oc [1] ?_;refine aL 6 ?_;refine aY 4 ?_;refine je (i:=4) E E (v:=.agg #[.slice z.tA X.data.length z.tc,D X.syn]) (wn E) E E (au E E (dS (cs:=[.slice z.tA X.data.length z.tc,D X.syn]) (St.rg 1 Oc E (rV)))) ?_;refine dR ?_;refine aY 7 ?_;refine kD 7 E eQ (Bg (U5 z.tA X.data.length z.tc X.data X.syn a.kp _ (NG.xV.rd Oc (memT 8 E hL)))) ?_;rintro _ abd ⟨ah6,aoE,rfl,aDJ⟩;refine⟨_,E,?_⟩;have zR:=Oc.ext aDJ E;refine aL 6 ?_;refine aY 13 ?_;refine snz (row':=dM n X.up (.slice ah6 ((nD X.data X.syn a.kp).1.length) aoE) ((nD X.data X.syn a.kp).2.1) (.slice (aD z.bb 0) 4 4) X.hints X.sure (.slice z.iA z.ix.length z.ic) (z.pv) X.turn) 13 E 2 zR kQ ?_;intro atB IV;refine aL 2 ?_;refine zN 6 ?_;refine jF (row':=dM n false (.slice ah6 ((nD X.data X.syn a.kp).1.length) aoE) ((nD X.data X.syn a.kp).2.1) (.slice (aD z.bb 0) 4 4) X.hints X.sure (.slice z.iA z.ix.length z.ic) (z.pv) X.turn) 2 IV kQ ?_;intro aAJ W9;refine zN 4 ?_;have LP:=W9.eG [2];refine dO eQ (nQ LP O) ?_;rintro _ asM ⟨rfl,axc,NR⟩;refine⟨_,E,?_⟩;have zS:=NR.aO [5,4,3];refine zQ ?_;refine bU (l':=[]) trivial (gF (oP ?_));rw[Pb ‹_› hnd,ahj (by rw[hX];assumption)];have acp:=zS.Cr 119 23;have NS:=acp.eG [7,7,7,7,4,6,6];rw[<-qP]at NS;exact⟨E,Wd.dP (X':=X.crashed a.kp) (z':={bb:=axc,tA:=ah6,tc:=aoE,bx:=sO,iA:=none,ic:=0,ix:=[],pv:=.nilFunc}) (Ls:=[.cK 1 ah6 ((nD X.data X.syn a.kp).1.length) (byteCells ((nD X.data X.syn a.kp).1))]) (fA:=R.fA) (fc:=R.fc) (fx:=R.fx) (sA:=R.sA) (sc:=R.sc) (tA:=R.tA) (tc:=R.tc) J M Z G hn NS ⟨E,O5,Ro.cK (mem_append_right _ (mem_singleton.2 E)),E,λy hy=>(by cases hy),E⟩ (λu O=>.inl O) (by rw[hX];rfl) G.fly.symm mI⟩
 refine zN 7 ?_;by_cases aK0:a.kd=9
 ·refine zN 5 ?_;have aoy:St B w0 w2 [.blk b1 (aR a) 51]:=S3.sub (Sublist.cons_cons _ (nil_sublist _));have Ww:=S3.drew;have Mf:=aoy.drew;refine aJ 10 Mf [] ?_;refine aL 5 ?_;refine ak (v:=D ((n:Nat):Int)) 6 E Mf (λ_ adT=>(Cb hnd (au E E (aK (St.cl 0 adT E E))))) ?_;refine aY 4 ?_;refine je (i:=4) E E (v:=.slice (aD ab ao) 5 R.nc) (wn E) E E (au E E (aK (St.cl 4 Ww E zX))) ?_;refine dR ?_;refine ak 7 E Mf (λ_ _=>kZ n) ?_;refine aY 8 ?_;refine je (i:=8) E E (v:=pV kn 0) (wn E) E E (au E E (aK (J▸vN harr hn Ww (memT 8 E hL)))) ?_;refine dR ?_;refine aY 9 ?_;have IX:=Ww.eG [7,7,7,7,7,7,7];have Xe:=IX;rw[<-qP]at Xe;have Xu:=Wd.dP (m:=m) (m':=m) (H:=H) (H':=H) (fs:=(.blk b1 (aR a) 51)::fs) (X':=X) (z':=z) (Ls:=[]) (fA:=R.fA) (fc:=R.fc) (fx:=R.fx) (sA:=R.sA) (sc:=R.sc) (tA:=R.tA) (tc:=R.tc) (rr:=(.blk b1 (aR a) 51)::rr) J M (by rw[<-Z]<;>rfl) G hn Xe NG.more (λu O=>.inl O) (aC hX).symm G.fly.symm mI;refine kD 9 E eQ (Vy hn J M O (by have:=I.fl;omega) (by have:=I.aV;omega) Xu (I.iE n hn).RH.1 (I.iE n hn).RH.2.1 (I.iE n hn).RH.2.2.1 (I.iE n hn).RH.2.2.2 hsh) ?_;rintro _ azQ ⟨rfl,am1⟩;refine⟨_,E,?_⟩;have asB:=Wd.Ii (gs:=[.blk b1 (aR a) 51]) am1;refine aL 2 ?_;refine bU (l':=[]) trivial (gF (oP ?_));rw[adp ‹_› hnd];exact⟨E,(Wd.less (gs:=[.blk b1 (aR a) 51]) am1)⟩
 refine zN 8 ?_;refine vv (v:=D ((q:Nat):Int)) (Cb hqd (au E E (aK (St.cl 0 S3 E E)))) ?_;refine zN 2 ?_;obtain⟨PW,hPW⟩:∃r,aI m.off q=r:=⟨_,E⟩;obtain⟨nn,hnn,hwn⟩:=ala hPW;have anW:=S3.eG [7,7,7,7,7,7,7];have WR:=anW;rw[<-qP]at WR;have axd:=Wd.dP (m:=m) (m':=m) (H:=H) (H':=H) (fs:=(.blk b1 (aR a) 51)::fs) (X':=X) (z':=z) (Ls:=[]) (fA:=R.fA) (fc:=R.fc) (fx:=R.fx) (sA:=R.sA) (sc:=R.sc) (tA:=R.tA) (tc:=R.tc) (rr:=(.blk b1 (aR a) 51)::rr) J M (by rw[<-Z]<;>rfl) G hn WR NG.more (λu O=>.inl O) (aC hX).symm G.fly.symm mI;refine dO eQ (YT hnn E M O (by have:=I.fl;omega) (by have:=I.aV;omega) hq axd (I.iE nn hnn).kX hPW hwn) ?_;rintro _ anQ ⟨rfl,am2⟩;refine⟨_,E,?_⟩;have WY:=Wd.Ii (gs:=[.blk b1 (aR a) 51]) am2;refine zQ ?_;refine bU (l':=[]) trivial (gF (oP ?_));rw[adq ‹_› ‹_› ‹_› ‹_› ‹_› ‹_› ‹_› ‹_› ‹_› hqd];exact⟨E,(Wd.less (gs:=[.blk b1 (aR a) 51]) am2)⟩
def vS:List Ac->Int
 |[]=>0
 |a::l=>if dz a≠0 then dz a else vS l
def Ch (l:List Ac):Int:=if 100000<l.length then 1 else vS l
section
variable {l:List Ac}{k:Nat}{x:Ac}
def arw (h:l[k]? =some x)(I:dz x=0):vS (l.drop k)=vS (l.drop (k+1)):=by rw[drop_cons h,vS,if_neg (λe=>e I)]
def alf (h:l[k]? =some x)(I:¬dz x=0):vS (l.drop k)=dz x:=by rw[drop_cons h,vS,if_pos I]
def Qm (h:¬ 100000<l.length):Ch l=vS l:=if_neg h
def ahl (h:100000<l.length):Ch l=1:=if_pos h
def Lr:∀ {l:List Ac},vS l=0-> ∀a∈l,dz a=0
 |[],_,a,ha=>by simp at ha
 |x::l,h,a,ha=>by
  rw[vS]at h
  split at h
  ·rename_i hx;exact absurd h hx
  rename_i hx
  rcases mem_cons.1 ha with rfl|ha
  ·exact Classical.not_not.1 hx
  exact Lr h a ha
def alg (h:Ch l=0):l.length<=100000/\ ∀a∈l,dz a=0:=by
 unfold Ch at h
 split at h
 ·cases h
 exact⟨by omega,Lr h⟩
def alh (h:l[k]? =some x):l.take (k+1)=l.take k++[x]:=by rw[take_add_one,h];rfl
def ahm {m:Cl}{l:List Ac}:m.run (l++[x])=(m.run l).act x:=by unfold Cl.run;rw[foldl_append];rfl
end
def F3 (fl:Nat)(U:Nat->Bool)(d:Dir)(bv sv tv:Value)(calls:Nat):List Value:=
 [D ((fl:Nat):Int),.bool (U 0),.bool (U 1),.bool (U 2),.bool (U 3),.bool (U 4),D d.p0.node,D d.p0.epoch,D d.p1.node,D d.p1.epoch,D d.p2.node,D d.p2.epoch,D d.p3.node,D d.p3.epoch,bv,sv,tv,D ((calls:Nat):Int)]
def ou (fl:Nat)(U:Nat->Bool)(d:Dir)(bv sv tv:Value)(calls:Nat):Array Value:=(F3 fl U d bv sv tv calls).toArray
def ali:Array Value:=oZ
section
variable {fl calls q k:Nat}{U:Nat->Bool}{d:Dir}{bv sv tv fv nv:Value}{sh:Nat->Nat->Int×Int}
def am3 (h1:bv.oneCell'=true)(I:sv.oneCell'=true)(J:tv.oneCell'=true):∀u∈(ou fl U d bv sv tv calls).toList,u.oneCell'=true:=by
 intro u h;simp only[ou,F3,mem_cons,not_mem_nil,or_false]at h
 rcases h with rfl|rfl|rfl|rfl|rfl|rfl|rfl|rfl|rfl|rfl|rfl|rfl|rfl|rfl|rfl|rfl|rfl|rfl<;>first|rfl|assumption
def Xv {RI I o:Nat}{U':Nat->Bool}{d':Dir}{J M O:Value}{vs:List Value}(h:o+vs.length<=18)(he:(F3 fl U d bv sv tv calls).take o++vs++(F3 fl U d bv sv tv calls).drop (o+vs.length)=F3 RI U' d' J M O I):
  cZ (ou fl U d bv sv tv calls) o vs=ou RI U' d' J M O I:=Array.ext' (by rw[iq _ _ _ h];exact he)
def aDK {RI:Nat}:cZ (ou fl U d bv sv tv calls) 0 [D ((RI:Nat):Int)]=ou RI U d bv sv tv calls:=Xv (le_of_ble_eq_true E) E
def aDL {d':Dir}:cZ (ou fl U d bv sv tv calls) 6 d'.cells=ou fl U d' bv sv tv calls:=Xv (le_of_ble_eq_true E) E
def am4 {x:Value}:cZ (ou fl U d bv sv tv calls) 14 [x]=ou fl U d x sv tv calls:=Xv (le_of_ble_eq_true E) E
def axe (h:q<5){v:Bool}:cZ (ou fl U d bv sv tv calls) (1+q*1) [.bool v]=ou fl (upd U q v) d bv sv tv calls:=by
 rcases five h with rfl|rfl|rfl|rfl|rfl<;>exact Xv (le_of_ble_eq_true E) E
def alj:∀(j:Nat) (u:Value),(ou 0 (λ_=>false) (⟨⟨0,0⟩,⟨0,0⟩,⟨0,0⟩,⟨0,0⟩⟩:Dir) (.slice none 0 0) sv tv calls).toList[j]? =some u->(lG nv d fv sh sv tv calls)[50+j]? =some u:=by
 intro j u h;have J:j<18:=(List.getElem?_eq_some_iff.1 h).1;have I:j=0\/j=1\/j=2\/j=3\/j=4\/j=5\/j=6\/j=7\/j=8\/j=9\/j=10\/j=11\/j=12\/j=13\/j=14\/j=15\/j=16\/j=17:=Y
 rcases I with rfl|rfl|rfl|rfl|rfl|rfl|rfl|rfl|rfl|rfl|rfl|rfl|rfl|rfl|rfl|rfl|rfl|rfl<;>exact h
end
def jN (p:Nat×List BX):List Value:=[.slice (aD p.1 0) 4 4]
structure P1 (L:List Fact)(m:Cl)(j:Nat)(p:Nat×List BX):Prop where
 rd:Ro L 6 (aD p.1 0) 4 (p.2.flatMap BX.cells)
 bm:p.2.map BX.b=vB (m.ah j).view
 bo:∀y∈p.2,BS L y
def P1.mono {L L':List Fact}{m:Cl}{j:Nat}{p:Nat×List BX}(h:P1 L m j p)(I:∀f∈L,f∈L'):P1 L' m j p:=⟨h.rd.mono I,h.bm,λy J=>(h.bo y J).mono I⟩
def Xw (L:List Fact)(m:Cl)(row:Array Value):Prop:= ∃(U:Nat->Bool) (BA:Option Addr) (bc:Nat) (sA:Option Addr) (sc:Nat) (tA:Option Addr) (tc:Nat) (ps:List (Nat×List BX)),row=ou m.fly.length U m.off (.slice BA 5 bc) (.slice sA m.aV.length sc) (.slice tA m.bK.length tc) m.calls/\(∀j,j<5->U j=(m.ah j).up)/\ps.length=5/\
 Ro L 1 BA 5 (ps.flatMap jN)/\Ro L 14 sA m.aV.length (m.aV.flatMap jH.cells)/\Ro L 7 tA m.bK.length (m.bK.flatMap wS.cells)/\ ∀j p,ps[j]? =some p->P1 L m j p
section
variable {K:CK}{R:CX}{B n k:Nat}{w0 w:World}{fs gs N lH L LC:List Fact}{m:Cl}{H:List LX}{X:Nd}{z:NX}{ps:List (Nat×List BX)}{p:Nat×List BX}{bs:List BX}{bB:Nat}{U:Nat->Bool}
def Wd.top (h:Wd K B w0 w fs m H):St B w0 w fs:=by
 obtain⟨R,_,S⟩:=h;exact S.sub (sublist_append_left _ _)
open Classical in
def St.shut (hn:n<5)(S:St B w0 w (kH K n (m.ah n) (R.nx n)++(uM K R m++(gs++gD K R m fs n)))):St B w0 w (gs++(fs++lJ K R m)):=by
 refine S.perm (List.perm_iff_count.2 λa=>?_);have h1:=List.perm_iff_count.1 (u6 (λj=>kH K j (m.ah j) (R.nx j)) hn) a;unfold gD lJ l8;simp only[List.count_append]at h1⊢;omega
open Classical in
def St.am5 (hn:n<5)(S:St B w0 w (kH K n (m.ah n) (R.nx n)++(uM K R m++(gs++((N++(fs++(l8 K R m n++R.L)))++lH))))):St B w0 w (gs++((lH++N)++(fs++lJ K R m))):=by
 refine S.perm (List.perm_iff_count.2 λa=>?_);have h1:=List.perm_iff_count.1 (u6 (λj=>kH K j (m.ah j) (R.nx j)) hn) a;unfold lJ l8;simp only[List.count_append]at h1⊢;omega
open Classical in
def St.aDM (hn:n<5)(S:St B w0 w (gs++(N++(fs++lJ K R m)))):St B w0 w (kH K n (m.ah n) (R.nx n)++(uM K R m++(gs++(N++(fs++(l8 K R m n++R.L)))))):=by
 refine S.perm (List.perm_iff_count.2 λa=>?_);have h1:=List.perm_iff_count.1 (u6 (λj=>kH K j (m.ah j) (R.nx j)) hn) a;unfold lJ l8;simp only[List.count_append]at h1⊢;omega
open Classical in
def St.axf (S:St B w0 w (gs++(N++(fs++LC)))):St B w0 w ((gs++(N++LC))++fs):=by
 refine S.perm (List.perm_iff_count.2 λa=>?_);simp only[List.count_append];omega
def Pd (J:ps.length=k)(h:∀j p,ps[j]? =some p->P1 L m j p)(hn:P1 L m k p):∀j q,(ps++[p])[j]? =some q->P1 L m j q:=λj q I=>by
 by_cases e:j<ps.length
 ·rw[getElem?_append_left e]at I;exact h j q I
 rw[getElem?_append_right Y]at I;have:j-ps.length=0:=by
  have:=(List.getElem?_eq_some_iff.1 I).1;rw[length_singleton]at this;omega
 rw[this]at I
 cases I;rw[show j=k by omega];exact hn
def arx (h:k<5)(I:R.nx k=z):Fact.own 42 6 (.slice (aD z.bb 0) 4 4) 4 (z.bx.flatMap BX.cells)∈lJ K R m:=by
 subst I;refine mem_append_right _ (mem_append_left _ (mem_flatMap.2 ⟨k,mem_range.2 h,?_⟩));exact mem_cons_of_mem _ (mem_cons_self ..)
def alk (h:dY K R.L k (m.ah k) (R.nx k))(J:m.ah k=X)(I:R.nx k=z)(M:X.up=true)(O:k<5):P1 (N++lJ K R m) m k (z.bb,z.bx):=by
 have Z:=arx (K:=K) (m:=m) O I;subst J;subst I;refine⟨Ro.own (mem_append_right _ Z),?_,λy hy=>(h.Tv y hy).mono λf hf=>mem_append_right _ (mem_append_right _ (mem_append_right _ hf))⟩;rw[dJ M];exact h.Rn
def alm (h:bs.map BX.b=vB (bg X.data X.syn))(I:∀y∈bs,y.b.evs.length<=y.c)(J:m.ah k=X)(M:X.up=false):P1 ((Fact.own 42 6 (.slice (aD bB 0) 4 4) 4 (bs.flatMap BX.cells)::(fJ bs++N))++LC) m k (bB,bs):=by
 subst J;refine⟨Ro.own (mem_append_left _ (mem_cons_self ..)),?_,λy O=>(O9 I y O).mono λf Z=>mem_append_left _ (mem_cons_of_mem _ (mem_append_left _ Z))⟩;unfold Nd.view;rw[if_neg (by rw[M];simp)];exact h
def Ub (h:∀j,j<k->U j=(m.ah j).up)(I:m.ah k=X):∀j,j<k+1->upd U k X.up j=(m.ah j).up:=λj J=>by
 by_cases e:j=k
 ·rw[e,upd_same,I]
 rw[upd_ne e];exact h j Y
def aln {OA:Option Addr}{h:Nat}(G:Good K R m H)(I:ps.length=5)(O:∀j,j<5->U j=(m.ah j).up)(J:Fact.own 43 1 (.slice OA ps.length h) ps.length (ps.flatMap jN)∈L)(M:∀f∈lJ K R m,f∈L)(Z:∀j p,ps[j]? =some p->P1 L m j p):
  Xw L m (ou R.fx.length U m.off (.slice OA ps.length h) (.slice R.sA m.aV.length R.sc) (.slice R.tA m.bK.length R.tc) m.calls):=by
 rw[I]at J⊢;have hf:R.fx.length=m.fly.length:=by rw[<-G.fly,length_map]
 have h1:Fact.own 164 14 (.slice R.sA m.aV.length R.sc) m.aV.length (m.aV.flatMap jH.cells)∈lJ K R m:=mem_append_left _ (mem_cons_of_mem _ (mem_cons_of_mem _ (mem_cons_self ..)));have h2:Fact.own 56 7 (.slice R.tA m.bK.length R.tc) m.bK.length (m.bK.flatMap wS.cells)∈lJ K R m:=mem_append_left _ (mem_cons_of_mem _ (mem_cons_of_mem _ (mem_cons_of_mem _ (mem_cons_self ..))));exact⟨U,OA,h,R.sA,R.sc,R.tA,R.tc,ps,by rw[hf],O,I,Ro.own J,Ro.own (M _ h1),Ro.own (M _ h2),Z⟩
end
def adt {B:Nat} {w0 w:World} {fs:List Fact} {A:Option Addr} {c:Nat} {l:List Ac} (S:St B w0 w fs) (hu:Uk B w0) (Xx:Ro fs 11 A l.length (l.flatMap Ac.cells)) (hb:l.length*88<=reachBytes):
    Calls prog 16 #[.slice A l.length c] w (λe w'=>(Ch l≠0->e=.returned (.tuple #[.agg ali,D (Ch l)])/\St B w0 w' fs)/\(Ch l=0-> ∃row L,e=.returned (.tuple #[.agg row,D 0])/\Xw L (kW.run l) row/\St B w0 w' (L++fs))):=by
 have hb2:=hb;unfold reachBytes at hb2;refine gK 99 func16 ?_;refine cw [0] ?_;refine zN 2 ?_;refine gB S ahD ?_;intro b1 w2 S3;refine zN 8 ?_;by_cases h4:100000< ((l.length:Nat):Int)
 ·refine zN 7 ?_;refine sa 0 S3 kQ ?_;intro w5 S6;refine zN 6 ?_;have S7:=S6.aO [0];have hsf:Ch l=1:=ahl Y;refine⟨λ_=>⟨by rw[hsf];rfl,S7⟩,λh=>?_⟩;rw[hsf]at h;exact absurd h (by first|decide|assumption)
 refine zN 15 ?_;refine fO (X:=Nat) (λI=>[(0,.slice A l.length c),(2,pV b1 0),(3,D 0),(18,.slice A l.length c),(19,D ((l.length:Nat):Int)),(20,D ((I:Nat):Int))]) (λI wr=>(I<=l.length)/\(vS l=vS (l.drop I))/\St B w0 wr ((.blk b1 oZ 35)::fs)) (λI=>l.length-I) (0) ?_ ?_ ?_
 ·exact⟨zero_le _,E,S3⟩
 ·exact rO
 rintro k1 w8 ⟨Xk,LY,S9⟩
 try dsimp only at Xk LY S9
 refine bH (l':=[(0,.slice A l.length c),(2,pV b1 0),(3,D 0),(18,.slice A l.length c),(19,D ((l.length:Nat):Int)),(20,D ((k1:Nat):Int))]) rO (aM (av ?_));by_cases h12:((k1:Nat):Int)< ((l.length:Nat):Int)
 ·refine zN 10 ?_;obtain⟨x,hx⟩:∃x,l[k1]? =some x:=⟨_,getElem?_eq_getElem Y⟩;obtain⟨ab_,ao_,hAb⟩:=En Xx S9 (memT 1 E dZ) Y;refine zQ ?_;refine vv (v:=pV ab_ (ao_+k1*11)) (bJ E E E (kN k1 hAb underlying23 kQ Y Y)) ?_;refine vv (v:=.agg (aR x)) (au E E (dS (cs:=Ac.cells x) (λj u hu=>by rw[Nat.add_assoc];exact yu Xx hAb S9 (memT 1 E dZ) (dh (enc:=Ac.cells) (sz:=11) (k:=k1) (λ_=>E) hx hu)))) ?_;refine gB S9 ahE ?_;intro b13 KV jh;refine sa 0 jh kQ ?_;intro w16 zI;refine zN 5 ?_;refine cab eQ zI (Q5 x _) ?_;intro MO uz;refine zN 6 ?_;by_cases h21:dz x=0
  ·refine zN 8 ?_;refine vv (v:=D ((k1+1:Nat):Int)) jc ?_;refine zN 2 ?_;have jX:=uz.aO [0];refine bQ (k1+1) ?_ rO (by first|omega|(dsimp only;omega));exact⟨Y,(by rw[LY];exact arw hx h21),jX⟩
  refine zN 8 ?_;refine sa 1 uz kQ ?_;intro JB jP;refine zN 10 ?_;have lC:=jP.aO [1,0];have hsf:Ch l=dz x:=by rw[Qm Y,LY];exact alf hx h21
  refine⟨λ_=>⟨by rw[hsf];rfl,lC⟩,λh=>?_⟩;rw[hsf]at h;exact absurd h (by first|decide|assumption)
 refine zN 12 ?_;have auZ:Ch l=0:=by rw[Qm Y,LY,drop_eq_nil_of_le Y];rfl
 obtain⟨aFY,hall⟩:=alg auZ;refine dO eQ (Vs S9 hu) ?_;rintro _ MN ⟨K,rfl,aDN⟩;refine⟨_,E,?_⟩;have ad3:Wd K B w0 MN ((.blk b1 oZ 35)::fs) kW []:=aDN;have sP:=Wd.top ad3;obtain⟨kw,iC⟩:∃b,K.wb=b:=⟨_,E⟩;obtain⟨n,hn0⟩:∃n,n=0:=⟨_,E⟩;have hn:n<5:=Y;obtain⟨kn,hkn⟩:∃b,K.nb n=b:=⟨_,E⟩;rw[iC];refine zN 12 ?_;refine fO (X:=Nat×Cl) (λI=>[(2,pV b1 0),(3,D 0),(7,pV kw 0),(32,.slice A l.length c),(33,D ((l.length:Nat):Int)),(34,D ((I.1:Nat):Int))]) (λI wr=>(Wd K B w0 wr ((.blk b1 oZ 35)::fs) I.2 [])/\(I.2=kW.run (l.take I.1))/\(Bs I.2 I.1)/\(ShN I.2)/\(I.1<=l.length)/\St B w0 wr ((.blk b1 oZ 35)::fs)) (λI=>l.length-I.1) (0,kW) ?_ ?_ ?_
 ·exact⟨ad3,E,aoc,λ_ _=>Int.le_refl _,zero_le _,Wd.top ad3⟩
 ·exact rO
 rintro⟨k2,mm⟩ w29 ⟨ac6,IQ,IU,Sj,aoz,BH⟩
 try dsimp only at ac6 IQ IU Sj aoz BH
 refine bH (l':=[(2,pV b1 0),(3,D 0),(7,pV kw 0),(32,.slice A l.length c),(33,D ((l.length:Nat):Int)),(34,D ((k2:Nat):Int))]) rO ?_;obtain⟨R3,G3,Wv⟩:=ac6.open hn;have T9:=G3.iE n hn;obtain⟨M,Z⟩:∃X,mm.ah n=X:=⟨_,E⟩;obtain⟨O,hz3⟩:∃z,R3.nx n=z:=⟨_,E⟩;rw[Z,hz3]at Wv T9;obtain⟨rr3,Jo⟩:∃r,gD K R3 mm fs n=r:=⟨_,E⟩;have au0:∀f∈fs,f∈rr3:=λf hf=>Jo▸mem_append_left _ hf;have sU:St B w0 w29 (cN kn n M O O.pv (cF kw R3 mm ((.blk b1 oZ 35)::rr3))):=by rw[<-Jo];subst hkn;subst iC;exact Wv
 clear Wv;refine zN 2 ?_;by_cases h37:((k2:Nat):Int)< ((l.length:Nat):Int)
 ·refine zN 10 ?_;obtain⟨x,hx⟩:∃x,l[k2]? =some x:=⟨_,getElem?_eq_getElem Y⟩;obtain⟨ab_,ao_,hAb⟩:=En Xx sU (memT 8 E au0) Y;have hxa:=ME (hall x (mem_of_getElem? hx));refine zQ ?_;refine vv (v:=pV ab_ (ao_+k2*11)) (bJ E E E (kN k2 hAb underlying23 kQ Y Y)) ?_;refine vv (v:=.agg (aR x)) (au E E (dS (cs:=Ac.cells x) (λj u hu=>by rw[Nat.add_assoc];exact yu Xx hAb sU (memT 8 E au0) (dh (enc:=Ac.cells) (sz:=11) (k:=k2) (λ_=>E) hx hu)))) ?_;refine gB sU ahE ?_;intro b38 w39 wR;refine sa 0 wR kQ ?_;intro w41 Cx;refine zN 5 ?_;have tQ:=Cx.aO [0];have aDO:=Wd.dP (m:=mm) (m':=mm) (H:=[]) (H':=[]) (fs:=(.blk b1 oZ 35)::fs) (X':=M) (z':=O) (Ls:=[]) (fA:=R3.fA) (fc:=R3.fc) (fx:=R3.fx) (sA:=R3.sA) (sc:=R3.sc) (tA:=R3.tA) (tc:=R3.tc) (rr:=(.blk b1 oZ 35)::rr3) hkn iC (by rw[<-Jo];rfl) G3 hn tQ T9.more (λu hu=>.inl hu) (aC Z).symm G3.fly.symm mI;refine dO eQ (ahk (n:=x.nd.toNat) (q:=x.qu.toNat) (by have:=hxa.nd;omega) (by have:=hxa.qu;omega) (by have:=hxa.nd;omega) (by have:=hxa.qu;omega) E iC hu aDO IU Y hxa Sj) ?_;rintro _ ZC ⟨rfl,aoF⟩;refine⟨_,E,?_⟩;have zn:=Wd.top aoF;refine zN 4 ?_;refine vv (v:=D ((k2+1:Nat):Int)) jc ?_;refine zN 2 ?_;refine bQ (k2+1,mm.act x) ?_ rO (by first|omega|(dsimp only;omega));exact⟨aoF,(by dsimp only;rw[alh hx,ahm,<-IQ]),(by dsimp only;exact xW IU hxa Y),(by dsimp only;exact ShN.act Sj),uQ,(Wd.top aoF)⟩
 refine zN 11 ?_;have hmm:mm=kW.run l:=by rw[IQ,take_of_length_le Y]
 have hBs:=IU;obtain⟨R,G,S0⟩:=ac6.open hn;have NG:=G.iE n hn;obtain⟨X,hX⟩:∃X,mm.ah n=X:=⟨_,E⟩;obtain⟨z,hz⟩:∃z,R.nx n=z:=⟨_,E⟩;rw[hX,hz]at S0 NG;obtain⟨rr,hrr⟩:∃r,gD K R mm fs n=r:=⟨_,E⟩;have hfr:∀f∈fs,f∈rr:=λf hf=>hrr▸mem_append_left _ hf;have Al:St B w0 w29 (cN kn n X z z.pv (cF kw R mm ((.blk b1 oZ 35)::rr))):=by rw[<-hrr];subst hkn;subst iC;exact S0
 clear S0;have hcl:=hBs.calls;have hfl:R.fx.length=mm.fly.length:=by rw[<-G.fly,length_map]
 refine zN 4 ?_;refine vv (v:=.agg (ou 0 (λ_=>false) (⟨⟨0,0⟩,⟨0,0⟩,⟨0,0⟩,⟨0,0⟩⟩:Dir) (.slice none 0 0) (.slice R.sA mm.aV.length R.sc) (.slice R.tA mm.bK.length R.tc) mm.calls)) (au E E (dS (cs:=(ou 0 (λ_=>false) (⟨⟨0,0⟩,⟨0,0⟩,⟨0,0⟩,⟨0,0⟩⟩:Dir) (.slice none 0 0) (.slice R.sA mm.aV.length R.sc) (.slice R.tA mm.bK.length R.tc) mm.calls).toList) (St.rg 3 Al E alj))) ?_;refine gB Al ahD ?_;intro J VP vT;refine stA 0 vT kQ ?_ (h1:=by exact am3 (fl:=0) (U:=(λ_=>false)) (d:=(⟨⟨0,0⟩,⟨0,0⟩,⟨0,0⟩,⟨0,0⟩⟩:Dir)) (bv:=.slice none 0 0) (sv:=.slice R.sA mm.aV.length R.sc) (tv:=.slice R.tA mm.bK.length R.tc) (calls:=mm.calls) E E E);intro w52 Cv;refine zN 2 ?_;have uH:=Cv.eG [4,1];refine zQ ?_;have vU:=uH.drew;refine aJ 13 vU [0] ?_;refine aL 3 ?_;refine ak (v:=.slice R.fA R.fx.length R.fc) 3 E (St.del 0 vU) (λ_ aa5=>(au E E (aK (St.cl 0 aa5 E Sg)))) ?_;refine aL 4 ?_;refine ak (v:=.agg ((mm.off.cells).toArray)) 8 E (St.del 0 vU) (λ_ aa0=>(au E E (dS (cs:=(mm.off.cells)) (St.rg 0 aa0 E (xU))))) ?_;refine dR ?_;refine aY 10 ?_;refine snz 10 E 0 vU kQ ?_ (hs:=by exact aDK);intro VQ uy;refine aL 2 ?_;refine aY 12 ?_;refine snz 12 E 0 uy kQ ?_ (h1:=vM _) (hs:=by exact aDL);intro w69 zJ;refine aL 2 ?_;refine zN 3 ?_;obtain⟨ab,ao,qP⟩:=Ca G.arr zJ (memT 9 E λf hf=>hrr▸mem_append_right _ (mem_append_right _ hf));refine zN 4 ?_;refine vv (v:=.slice R.nA 5 R.nc) (au E E (aK (St.cl 1 zJ E zX))) ?_;refine zN 5 ?_;have sS:=zJ.eG [7,7,7,4,7,7,7];have Fu:=St.shut (gs:=[.blk J (ou R.fx.length (λ_=>false) mm.off (.slice none 0 0) (.slice R.sA mm.aV.length R.sc) (.slice R.tA mm.bK.length R.tc) mm.calls) 35,.blk b1 oZ 35]) hn (by subst hkn;subst iC;rw[hX,hz,show gD K R mm fs n=rr from hrr];exact sS);have tV:=Fu.nil 43 1;obtain⟨LC,hLC⟩:∃f,f=lJ K R mm:=⟨_,E⟩;obtain⟨LF,hLF⟩:∃f,f=fs++LC:=⟨_,E⟩;rw[<-hLC,<-hLF]at tV;refine fO (X:=Nat×(Nat->Bool)×(List (Nat×List BX))×(Option Addr)×Nat×(List Fact)) (λI=>[(2,pV b1 0),(3,D 0),(10,pV J 0),(60,.slice R.nA 5 R.nc),(61,D 5),(62,D ((I.1:Nat):Int))]) (λI wr=>(I.1<=5)/\(I.2.2.1.length=I.1)/\(∀j p,I.2.2.1[j]? =some p->P1 (I.2.2.2.2.2++LC) mm j p)/\(∀j,j<I.1->I.2.1 j=(mm.ah j).up)/\St B w0 wr ((.own 43 1 (.slice I.2.2.2.1 I.2.2.1.length I.2.2.2.2.1) I.2.2.1.length ((I.2.2.1).flatMap jN))::(.blk J (ou R.fx.length I.2.1 mm.off (.slice I.2.2.2.1 I.2.2.1.length I.2.2.2.2.1) (.slice R.sA mm.aV.length R.sc) (.slice R.tA mm.bK.length R.tc) mm.calls) 35)::(.blk b1 oZ 35)::(I.2.2.2.2.2++LF))) (λI=>5-I.1) (0,(λ_=>false),[],none,0,[]) ?_ ?_ ?_
 ·exact⟨zero_le _,E,(λj p hp=>by simp at hp),(λj hj=>absurd hj (not_lt_zero _)),tV⟩
 ·exact rO
 rintro⟨k,U9,ps,OA,oc,N9⟩ w74 ⟨au1,adu,ah7,ah8,Gq⟩
 try dsimp only at au1 adu ah7 ah8 Gq
 refine bH (l':=[(2,pV b1 0),(3,D 0),(10,pV J 0),(60,.slice R.nA 5 R.nc),(61,D 5),(62,D ((k:Nat):Int))]) rO ?_;have hk5:k<=5:=au1;refine zN 2 ?_;by_cases h80:((k:Nat):Int)<5
 ·refine zN 10 ?_;have hk4:k<5:=Y;have S9:=St.aDM (n:=k) (gs:=[.own 43 1 (.slice OA ps.length oc) ps.length ((ps).flatMap jN),.blk J (ou R.fx.length U9 mm.off (.slice OA ps.length oc) (.slice R.sA mm.aV.length R.sc) (.slice R.tA mm.bK.length R.tc) mm.calls) 35,.blk b1 oZ 35]) (N:=N9) (fs:=fs) hk4 (by rw[<-hLC,<-hLF];exact Gq);obtain⟨M,Z⟩:∃X,mm.ah k=X:=⟨_,E⟩;obtain⟨O,hz3⟩:∃z,R.nx k=z:=⟨_,E⟩;obtain⟨knk,ah9⟩:∃b,K.nb k=b:=⟨_,E⟩;obtain⟨rk,Nz⟩:∃r,fs++(l8 K R mm k++R.L)=r:=⟨_,E⟩;have T9:=G.iE k hk4;rw[Z,hz3]at S9 T9;rw[Nz]at S9;have hLk:∀f∈R.L,f∈rk:=λf hf=>Nz▸mem_append_right _ (mem_append_right _ hf);have vK:St B w0 w74 (cN knk k M O O.pv (cF kw R mm ((.own 43 1 (.slice OA ps.length oc) ps.length ((ps).flatMap jN))::(.blk J (ou R.fx.length U9 mm.off (.slice OA ps.length oc) (.slice R.sA mm.aV.length R.sc) (.slice R.tA mm.bK.length R.tc) mm.calls) 35)::(.blk b1 oZ 35)::(N9++rk)))):=by subst ah9;subst iC;exact S9
  clear S9;refine zN 2 ?_;refine vv (v:=pV ab (ao+k*1)) (bJ E E E (kN k qP underlying90 kQ Y Y)) ?_;refine vv (v:=pV knk 0) (au E E (aK (ah9▸vN (qP▸G.arr) hk4 vK (memT 10 E λf hf=>mem_append_right _ (hLk f hf))))) ?_;refine zN 12 ?_;refine vv (v:=pV J (1+k*1)) (bJ E E E (fE k underlying25 kQ E hk4)) ?_;refine za (cs:= #[.bool M.up]) (row':=ou R.fx.length (upd U9 k M.up) mm.off (.slice OA ps.length oc) (.slice R.sA mm.aV.length R.sc) (.slice R.tA mm.bK.length R.tc) mm.calls) (fs':=(_::_::_::_::_::_::_::_::(.blk J (ou R.fx.length (upd U9 k M.up) mm.off (.slice OA ps.length oc) (.slice R.sA mm.aV.length R.sc) (.slice R.tA mm.bK.length R.tc) mm.calls) 35)::_::(N9++rk))) 8 vK (wn E) E E E E E E kQ E (bP E) (by show 1+k*1+1<=18;omega) (axe hk4 (v:=M.up)) E ?_;intro w82 Dp;refine zN 13 ?_
  rcases hup:M.up with _|_
  ·refine zN 4 ?_;refine vv (v:=.bool false) (OO hup (au E E (aK (St.cl 0 Dp E E)))) ?_;refine zN 8 ?_;refine vv (au E E (dS (cs:=[.slice O.tA M.data.length O.tc,D M.syn]) (St.rg 0 Dp E (rV)))) ?_;have hrd:=(hBs.iE k hk4).RH;rw[Z]at hrd;refine dO eQ (Ik O.tA O.tc M.data M.syn _ (T9.xV.rd Dp (memT 10 E λf hf=>mem_append_right _ (hLk f hf))) hrd.1 hrd.2.2.1) ?_;rintro _ w87 ⟨A84,c85,bB,bs,hbm,hbl,hbc,rfl,T86⟩;refine⟨_,E,?_⟩;have MR:=Dp.ext T86 (by simp[Kt,Fact.Io]);have MQ:St B w0 w87 ((oB bB bs)::(.cK 1 A84 ((jA M.data M.syn).1.length) (byteCells ((jA M.data M.syn).1)))::(cN knk k M O O.pv (cF kw R mm ((.own 43 1 (.slice OA ps.length oc) ps.length ((ps).flatMap jN))::(.blk J (ou R.fx.length (upd U9 k M.up) mm.off (.slice OA ps.length oc) (.slice R.sA mm.aV.length R.sc) (.slice R.tA mm.bK.length R.tc) mm.calls) 35)::(.blk b1 oZ 35)::((N9++rk)++fJ bs))))):=St.perm MR (Perm.cons _ (Perm.cons _ (perm_append_comm (l₁:=fJ bs))));clear Dp;refine zN 10 ?_;refine bsI MQ ?_;intro b90 w91 zm;refine dU (news:=[.slice (aD bB 0) 4 4]) (xs':=((ps++[(bB,bs)])).flatMap jN) 10 zm (wn E) E E E E E E (St.mq (xs:=[.slice (aD bB 0) 4 4]) 0 zm E E E) underlying31 aee E dQ (bP E) lQ Y (jy (enc:=jN) E E) ?_;intro A93 c94 w95 aK1 aK2 Fz;refine zQ ?_;refine jF 11 Fz kQ ?_ (hs:=by exact am4);intro w99 wm;refine zN 4 ?_;refine vv (v:=D ((k+1:Nat):Int)) jc ?_;refine zN 2 ?_;have wu:=wm.aO [2,0];have tq:=wu.eG [0,10,10,10,10,10,10,10,10,10,10];have vF:St B w0 w99 ((.own 43 1 (.slice A93 (ps.length+1) c94) (ps.length+1) (((ps++[(bB,bs)])).flatMap jN))::(.blk J (ou R.fx.length (upd U9 k M.up) mm.off (.slice A93 (ps.length+1) c94) (.slice R.sA mm.aV.length R.sc) (.slice R.tA mm.bK.length R.tc) mm.calls) 35)::(.blk b1 oZ 35)::(((oB bB bs)::(fJ bs++N9))++LF)):=by
    rw[hLF,hLC];exact St.am5 (n:=k) (gs:=[.own 43 1 (.slice A93 (ps.length+1) c94) (ps.length+1) (((ps++[(bB,bs)])).flatMap jN),.blk J (ou R.fx.length (upd U9 k M.up) mm.off (.slice A93 (ps.length+1) c94) (.slice R.sA mm.aV.length R.sc) (.slice R.tA mm.bK.length R.tc) mm.calls) 35,.blk b1 oZ 35,.own 42 6 (.slice (aD bB 0) 4 4) 4 ((bs).flatMap BX.cells)]) (N:=N9) (lH:=fJ bs) (fs:=fs) hk4 (by subst ah9;subst iC;rw[Z,hz3];rw[<-Nz]at tq;exact tq)
   have V5:ps.length+1=(ps++[(bB,bs)]).length:=by simp
   rw[V5]at vF;refine bQ (k+1,upd U9 k M.up,(ps++[(bB,bs)]),A93,c94,(.own 42 6 (.slice (aD bB 0) 4 4) 4 ((bs).flatMap BX.cells)::(fJ bs++N9))) ?_ rO (by first|omega|(dsimp only;omega));exact⟨uQ,(by dsimp only;rw[length_append,adu];rfl),(by dsimp only;exact Pd adu (λj p hp=>(ah7 j p hp).mono (λf hf=>(mem_append.1 hf).elim (λh=>mem_append_left _ (mem_cons_of_mem _ (mem_append_right _ h))) λh=>mem_append_right _ h)) (alm hbm hbc Z hup)),(by dsimp only;exact Ub ah8 Z),vF⟩
  refine zN 4 ?_;refine vv (v:=.bool true) (OO hup (au E E (aK (St.cl 0 Dp E E)))) ?_;refine zN 10 ?_;refine bsI Dp ?_;intro aK3 atA Ma;refine dU (news:=[.slice (aD O.bb 0) 4 4]) (xs':=((ps++[(O.bb,O.bx)])).flatMap jN) 8 Ma (wn E) E E E E E E (St.mq (xs:=[.slice (aD O.bb 0) 4 4]) 0 Ma E E E) underlying31 aee E dQ (bP E) lQ Y (jy (enc:=jN) E E) ?_;intro WW WX aa2 aFZ aF0 qX;refine zQ ?_;refine jF 9 qX kQ ?_ (hs:=by exact am4);intro anK EC;refine zN 4 ?_;refine vv (v:=D ((k+1:Nat):Int)) jc ?_;refine zN 2 ?_;have qY:=EC.aO [0];have yL:=qY.eG [9,9,9,9,9,9,9,9,9,9];have zV:St B w0 anK ((.own 43 1 (.slice WW (ps.length+1) WX) (ps.length+1) (((ps++[(O.bb,O.bx)])).flatMap jN))::(.blk J (ou R.fx.length (upd U9 k M.up) mm.off (.slice WW (ps.length+1) WX) (.slice R.sA mm.aV.length R.sc) (.slice R.tA mm.bK.length R.tc) mm.calls) 35)::(.blk b1 oZ 35)::(N9++LF)):=by
   rw[hLF,hLC];exact St.am5 (n:=k) (gs:=[.own 43 1 (.slice WW (ps.length+1) WX) (ps.length+1) (((ps++[(O.bb,O.bx)])).flatMap jN),.blk J (ou R.fx.length (upd U9 k M.up) mm.off (.slice WW (ps.length+1) WX) (.slice R.sA mm.aV.length R.sc) (.slice R.tA mm.bK.length R.tc) mm.calls) 35,.blk b1 oZ 35]) (N:=N9) (lH:=[]) (fs:=fs) hk4 (by subst ah9;subst iC;rw[Z,hz3,append_nil];rw[<-Nz]at yL;exact yL)
  have V5:ps.length+1=(ps++[(O.bb,O.bx)]).length:=by simp
  rw[V5]at zV;refine bQ (k+1,upd U9 k M.up,(ps++[(O.bb,O.bx)]),WW,WX,N9) ?_ rO (by first|omega|(dsimp only;omega));exact⟨uQ,(by dsimp only;rw[length_append,adu];rfl),(by dsimp only;exact Pd adu (λj p hp=>(ah7 j p hp).mono (λf hf=>hf)) (hLC▸alk (G.iE k hk4) Z hz3 hup hk4)),(by dsimp only;exact Ub ah8 Z),zV⟩
 refine zN 13 ?_;refine stA 2 Gq kQ ?_ (h1:=by exact am3 (fl:=R.fx.length) (U:=U9) (d:=mm.off) (bv:=.slice OA ps.length oc) (sv:=.slice R.sA mm.aV.length R.sc) (tv:=.slice R.tA mm.bK.length R.tc) (calls:=mm.calls) E E E);intro anM xP;refine zN 5 ?_;have hsf:Ch l=0:=auZ;refine⟨λh=>absurd hsf h,λ_=>?_⟩;have uE:=xP.aO [2,1];have h5:k=5:=Y;rw[hLF]at uE;refine⟨_,[.own 43 1 (.slice OA ps.length oc) ps.length ((ps).flatMap jN)]++(N9++LC),E,?_,St.axf (gs:=[.own 43 1 (.slice OA ps.length oc) ps.length ((ps).flatMap jN)]) (N:=N9) (fs:=fs) (LC:=LC) uE⟩;rw[<-hmm];exact aln (ps:=ps) G Y (λj hj=>ah8 j Y) (mem_append_left _ (mem_singleton.2 E)) (λf hf=>mem_append_right _ (mem_append_right _ (hLC▸hf))) (λj p hp=>(ah7 j p hp).mono λf hf=>mem_append_right _ hf)
def arB {B:Nat}{w0 w:World}{fs:List Fact}{A:Option Addr}{c:Nat}{l:List Ac}(J:Ch l=0)(S:St B w0 w fs)(M:Uk B w0)(I:Ro fs 11 A l.length (l.flatMap Ac.cells))(O:l.length*88<=reachBytes):
  Calls prog 16 #[.slice A l.length c] w (λe w'=> ∃row L,e=.returned (.tuple #[.agg row,D 0])/\Xw L (kW.run l) row/\St B w0 w' (L++fs)):=(adt S M I O).mono λ_ _ h=>h.2 J
structure OX where
 fl:Nat
 U:Nat->Bool
 d:Dir
 BA:Option Addr
 bc:Nat
 sA:Option Addr
 sn:Nat
 sc:Nat
 tA:Option Addr
 tn:Nat
 tc:Nat
 calls:Nat
def OX.cells (x:OX):List Value:=F3 x.fl x.U x.d (.slice x.BA 5 x.bc) (.slice x.sA x.sn x.sc) (.slice x.tA x.tn x.tc) x.calls
abbrev oY (x:OX)(s:Value):Array Value:= #[D ((x.fl:Nat):Int),.bool (x.U 0),.bool (x.U 1),.bool (x.U 2),.bool (x.U 3),.bool (x.U 4),D x.d.p0.node,D x.d.p0.epoch,D x.d.p1.node,D x.d.p1.epoch,D x.d.p2.node,D x.d.p2.epoch,D x.d.p3.node,D x.d.p3.epoch,.slice x.BA 5 x.bc,s,.slice x.tA x.tn x.tc,D ((x.calls:Nat):Int)]
abbrev oX (x:OX):Array Value:=oY x (.slice x.sA x.sn x.sc)
structure adv (L:List Fact)(m:Cl)(x:OX):Prop where
 up:∀j,j<5->x.U j=(m.ah j).up
 d:x.d=m.off
 fl:x.fl=m.fly.length
 sn:x.sn=m.aV.length
 tn:x.tn=m.bK.length
 calls:x.calls=m.calls
 ps:∃ps:List (Nat×List BX),ps.length=5/\Ro L 1 x.BA 5 (ps.flatMap jN)/\ ∀j p,ps[j]? =some p->P1 L m j p
 aV:Ro L 14 x.sA x.sn (m.aV.flatMap jH.cells)
 bK:Ro L 7 x.tA x.tn (m.bK.flatMap wS.cells)
def Xw.x {L:List Fact}{m:Cl}{row:Array Value}(h:Xw L m row):∃x:OX,row=x.cells.toArray/\adv L m x:=by
 obtain⟨U,BA,bc,sA,sc,tA,tc,ps,rfl,I,J,M,hs,O,Z⟩:=h;exact⟨⟨m.fly.length,U,m.off,BA,bc,sA,m.aV.length,sc,tA,m.bK.length,tc,m.calls⟩,E,I,E,E,E,E,E,⟨ps,J,M,Z⟩,hs,O⟩
def adv.mono {L L':List Fact}{m:Cl}{x:OX}(h:adv L m x)(I:∀f∈L,f∈L'):adv L' m x:=by
 obtain⟨h1,O,Z,h4,h5,h6,⟨ps,h7,h8,h9⟩,J,M⟩:=h;exact⟨h1,O,Z,h4,h5,h6,⟨ps,h7,h8.mono I,λj p hj=>(h9 j p hj).mono I⟩,J.mono I,M.mono I⟩
def aag (B:Nat)(w0:World)(fs:List Fact)(l:List Ac)(e:Ending)(w':World):Prop:= ∃x L,e=.returned (.tuple #[.agg (OX.cells x).toArray,.bool true])/\adv L (kW.run l) x/\St B w0 w' (L++fs)
def alo {α:Type}{l:List α}(h:l.length=5):∃a b c d e,l=[a,b,c,d,e]:=by
 match l,h with
 |[a,b,c,d,e],_=>exact⟨a,b,c,d,e,E⟩
def adw {B:Nat} {w0 w:World} {fs:List Fact} {A:Option Addr} {c:Nat} {l:List Ac} (h0:Ch l=0) (S:St B w0 w fs) (hu:Uk B w0) (J:Ro fs 11 A l.length (l.flatMap Ac.cells)) (hb:l.length*88<=reachBytes):
    Calls prog 8 #[.slice A l.length c] w (aag B w0 fs l):=by
 refine gK 28 func8 ?_;refine cw [0] ?_;refine zN 2 ?_;refine gB S ahD ?_;intro b1 w2 S3;refine zN 6 ?_;refine dO eQ (arB h0 S3 hu (J.mono (memT 1 E dZ)) hb) ?_;rintro _ w4 ⟨aK4,L8,rfl,hO9,S5⟩;refine⟨_,E,?_⟩;obtain⟨x,rfl,hX⟩:=Xw.x hO9;obtain⟨ps,hpl,M,hP⟩:=hX.ps;obtain⟨p0,p1,p2,p3,p4,rfl⟩:=alo hpl;have S6:=S5.perm (perm_middle (a:=.blk b1 oZ 35) (l₁:=L8) (l₂:=fs));have O:∀f∈L8,f∈L8++fs:=λf h=>mem_append_left _ h;obtain⟨bA,oA,Z⟩:=En M S6 (memT 1 E O) dQ;refine zN 3 ?_;refine gB S6 ahD ?_;intro b10 Ht oF;refine stA 0 oF kQ ?_;intro Ea mX;refine zN 4 ?_;have I:=mX.drew;refine aJ 19 I [1] ?_;refine aL 12 ?_;refine DY (v:=.pointer (some ⟨bA,oA+0*1,none⟩)) (i:=12) (n:=6) E kQ kQ kQ (St.del 1 I) E (wg E E E E) E E (λ_ _=>(bJ E E E (kN 0 Z underlying31 kQ dQ dQ))) ?_;refine DY (v:=.slice (some ⟨p0.1,0,none⟩) 4 4) (i:=13) (n:=5) E kQ kQ kQ (St.del 1 I) E (wg E E E E) E E (λ_ ac3=>(au E E (aK (yu M Z ac3 (memT 1 E O) E)))) ?_;refine aL 3 ?_;refine aY 17 ?_;refine snA 17 E 1 I kQ ?_;intro w33 qW;refine aL 3 ?_;refine zN 3 ?_;have sU:=qW.aO [1,0];exact⟨x,L8,E,hX,sU⟩
def aDP (q:Nat)(l:List jH):List jH:=l.filter λs=>decide (s.q=q)
def ahn {gs:List Gr}{A:Option Addr}{c m:Nat}{cr:Bool}{s:List Ac}(hs:s=bZ gs m cr)(I:m<=1000)(J:∀g∈gs,g.ok)(w:World)(h:Rd w w.heap.size 5 A gs.length (gs.flatMap Gr.cells)):
  Calls prog 7 #[.slice A gs.length c,.int .i64 ((m:Nat):Int),.bool cr] w (λe w'=> ∃A' c',e=.returned (.slice A' s.length c')/\St w.heap.size w w' [.own 51 11 (.slice A' s.length c') s.length (s.flatMap Ac.cells)]):=by
 subst hs;exact RD I J w h
def adx {l:List Ac}(h:∀a∈l,dz a=0)(I:l.length<=100000):Ch l=0:=by
 rw[Qm Y];clear I
 induction l with
 |nil=>rfl
 |cons a l J=>rw[vS,if_neg (by rw[h a mem_cons_self];simp),J λx M=>h x (mem_cons_of_mem _ M)]
def arC {s F:List Ac}{A:Option Addr}{c r:Nat}(I:F=lN s r)(J:r<=100000)(M:s.length<=100000)(w:World)(h:Rd w w.heap.size 11 A s.length (s.flatMap Ac.cells)):
  Calls prog 9 #[.slice A s.length c,.int .i64 ((r:Nat):Int)] w (λe w'=> ∃A' c',e=.returned (.slice A' F.length c')/\St w.heap.size w w' [.own 51 11 (.slice A' F.length c') F.length (F.flatMap Ac.cells)]):=by
 subst I;exact YQ J M w h
def axg {B:Nat}{w0 w:World}{fs:List Fact}{A:Option Addr}{c:Nat}{F:List Ac}(I:∀a∈F,dz a=0)(J:F.length<=100000)(S:St B w0 w fs)(M:Uk B w0)(h:Ro fs 11 A F.length (F.flatMap Ac.cells)):
  Calls prog 8 #[.slice A F.length c] w (aag B w0 fs F):=adw (adx I J) S M h hQ
def axh {L:List Fact}{m:Cl}{j q:Nat}{p:Nat×List BX}(h:P1 L m j p)(M:q<4):∃y,p.2[q]? =some y/\y.b=(m.ah j).view q:=by
 have I:=h.bm;have hv:(vB (m.ah j).view)[q]? =some ((m.ah j).view q):=by
  have J:q=0\/q=1\/q=2\/q=3:=Y
  rcases J with rfl|rfl|rfl|rfl<;>rfl
 rw[<-I,getElem?_map]at hv
 cases h1:p.2[q]? with
 |none=>rw[h1]at hv;cases hv
 |some y=>rw[h1]at hv;exact⟨y,E,Option.some.inj hv⟩
def F4 (b:aQ):Prop:=serves b\/b.role=3
structure MJ (m:Cl)(q o:Nat):Prop where
 lt:o<5
 me:F4 ((m.ah o).view q)
 mV:∀n,n<5->n≠o->F4 ((m.ah n).view q)->((m.ah n).view q).ep< ((m.ah o).view q).ep
def AtQ (m:Cl)(q o n:Nat)(a:Int)(one:Bool):Prop:=(a= -1/\ ∀j,j<n-> ¬F4 ((m.ah j).view q))\/ ∃k:Nat,a=((k:Nat):Int)/\k<n/\F4 ((m.ah k).view q)/\(∀j,j<n->F4 ((m.ah j).view q)->((m.ah j).view q).ep<=((m.ah k).view q).ep)/\(o<n->k=o/\one=true)
section
variable {m:Cl}{q o n:Nat}{a:Int}{one:Bool}
def AtQ.first (h:AtQ m q o n a one)(M:MJ m q o)(ha:a<0)(O:F4 ((m.ah n).view q)):AtQ m q o (n+1) ((n:Nat):Int) true:=by
 rcases h with⟨h1,I⟩|⟨k,h1,I,h3,h4,h5⟩
 ·exact .inr ⟨n,E,by omega,O,λj Z J=>(Nat.lt_succ_iff_lt_or_eq.1 Z).elim (λh=>absurd J (I j h)) (λe=>e▸Int.le_refl _),λh=>⟨(Nat.lt_succ_iff_lt_or_eq.1 h).elim (λh=>absurd M.me (I o h)) Eq.symm,E⟩⟩
 omega
def AtQ.more {k:Nat}(h:AtQ m q o n ((k:Nat):Int) one)(M:MJ m q o)(hn:n<5)(J:F4 ((m.ah n).view q))(hg:((m.ah k).view q).ep< ((m.ah n).view q).ep):AtQ m q o (n+1) ((n:Nat):Int) true:=by
 rcases h with⟨h1,O⟩|⟨Z,h1,O,h3,h4,h5⟩
 ·omega
 obtain rfl:k=Z:=Y;refine .inr ⟨n,E,by omega,J,λj hj I=>(Nat.lt_succ_iff_lt_or_eq.1 hj).elim (λh=>by have:=h4 j h I;omega) (λe=>e▸Int.le_refl _),λh=>⟨?_,E⟩⟩
 rcases Nat.lt_succ_iff_lt_or_eq.1 h with h|h
 ·exfalso
  obtain⟨rfl,_⟩:=h5 h;by_cases e:n=k
  ·omega
  have:=M.mV n hn e J;omega
 exact h.symm
def AtQ.done (h:AtQ m q o 5 a one)(I:MJ m q o):a=((o:Nat):Int)/\one=true:=by
 rcases h with⟨h1,J⟩|⟨k,h1,J,Z,h4,M⟩
 ·exact absurd I.me (J o I.lt)
 obtain⟨rfl,O⟩:=M I.lt;exact⟨h1,O⟩
end
def Lu {N:Nat}{l:Slots}{o:Oper}{w:World}{x:Operand}{s:TypeId}{f b o0:Nat}(h:Nat)(I:o.op=.fieldAddr s x f:=by exact E)(J:ev l x=some (.pointer (some ⟨b,o0,none⟩)):=by exact E)(M:∀(b o:Nat) (w:World),(Instr.fieldAt s (.pointer (some ⟨b,o,none⟩)) f).run tP w=.ok (.pointer (some ⟨b,o+(h-o0),none⟩)) w:=by(intro _ _ _;kernel_rfl))(he:o0+(h-o0)=h:=by exact E):jg tP N l o w (.pointer (some ⟨b,h,none⟩)):=xI h M I J he
def am7 {x:OX}{q:Nat}(I:q<4):∀(j:Nat) (u:Value),[Value.int .i64 (x.d.at q).node,Value.int .i64 (x.d.at q).epoch][j]? =some u->(x.cells.toArray)[6+q*2+j]? =some u:=by
 have:q=0\/q=1\/q=2\/q=3:=by omega
 intro j u h
 match j with
 | 0=>rcases this with rfl|rfl|rfl|rfl<;>exact h
 | 1=>rcases this with rfl|rfl|rfl|rfl<;>exact h
 |j+2=>simp at h
def YW {gs:List Gr} {s F:List Ac} {A:Option Addr} {c:Nat} {w:World} (hs:s=bZ gs 120 true) (hF:F=lN s (vV s)) (hen:vV s<=100000) (hg: ∀ g∈gs,g.ok) (h0: ∀ a∈F,dz a=0) (hsl:s.length<=1000) (hFl:F.length<=100000) (aK5:(kW.run F).aV.length<=1000000000) (hu:Uk w.heap.size w) (h:Rd w w.heap.size 5 A gs.length (gs.flatMap Gr.cells)) (hfin: ∀ n q,n<5->q<2-> ¬ ((((kW.run F).ah n).view q).role=2\/(((kW.run F).ah n).view q).role=3)/\((((kW.run F).ah n).view q).role=1->((kW.run F).off.at q).node=((n:Nat):Int)/\((kW.run F).off.at q).epoch=(((kW.run F).ah n).view q).ep)/\(((kW.run F).off.at q).node=((n:Nat):Int)->(((kW.run F).ah n).view q).role=1)):
    Calls prog 3 #[.slice A gs.length c] w (λe w'=>e=.returned (.bool true)/\Below w.heap.size w w'):=by
 have S:=(St.start w).bX h;clear h;refine GZ (N:=85) (vs:=[.slice A gs.length c]) func3 E E E ?_;refine cw [0] ?_;refine ayR (va ?_);refine Nq (dF (aM (av (vm ?_))));refine dO eQ (ahn (m:=120) hs (by decide) hg _ ((St.rd 0 S E))) ?_;rintro _ w3 ⟨A1,c2,rfl,T5⟩;refine⟨_,E,?_⟩;have S4:=S.ext T5 E;clear T5 S;change St _ _ _ [.own 51 11 (.slice A1 s.length c2) s.length ((s).flatMap Ac.cells),_]at S4;refine va ?_;refine qk [2,3] ?_;refine Qy (vm ?_);refine vm ?_;refine cab eQ S4 (RG hsl _ (St.ord 0 S4 E)) ?_;intro w6 S7;clear S4;refine dO eQ (arC (r:=vV s) hF hen (by omega) _ ((St.ord 0 S7 E))) ?_;rintro _ Ht ⟨A9,J,rfl,T13⟩;refine⟨_,E,?_⟩;have oF:=S7.ext T13 E;clear T13 S7;change St _ _ _ [.own 51 11 (.slice A9 F.length J) F.length ((F).flatMap Ac.cells),_,_]at oF;refine dO eQ (axg h0 hFl oF hu (Ro.own (mem_of_getElem? (i:=0) E))) ?_;rintro _ KV ⟨x,M,rfl,aDQ,jh⟩;refine⟨_,E,?_⟩;clear oF;have hX:=aDQ;have hmL:∀f∈M,f∈(M++[.own 51 11 (.slice A9 F.length J) F.length ((F).flatMap Ac.cells),.own 51 11 (.slice A1 s.length c2) s.length ((s).flatMap Ac.cells),.rd 5 A gs.length ((gs).flatMap Gr.cells)]):=λf h=>mem_append_left _ h;refine vm ?_;refine vv yx ?_;refine vv yx ?_;refine lS (V:=λb=>.pointer (some ⟨b,0,none⟩)) (row:= #[.int .i64 0,.bool false,.bool false,.bool false,.bool false,.bool false,.int .i64 0,.int .i64 0,.int .i64 0,.int .i64 0,.int .i64 0,.int .i64 0,.int .i64 0,.int .i64 0,.slice none 0 0,.slice none 0 0,.slice none 0 0,.int .i64 0]) (t:=35) jh (wn E) E E (iM E (zeroValue35 _) E) ?_;intro Z Gn pK;clear jh;refine za (fs':=(_::(M++[.own 51 11 (.slice A9 F.length J) F.length ((F).flatMap Ac.cells),.own 51 11 (.slice A1 s.length c2) s.length ((s).flatMap Ac.cells),.rd 5 A gs.length ((gs).flatMap Gr.cells)]))) 0 pK (wn E) E E E E E E kQ E (bP E) (le_of_ble_eq_true E) (lZ E) E ?_;intro Fq jX;clear pK;refine va ?_;refine qk [2,4,5] ?_;refine ND (va ?_);refine Nq (dF (rM (fO (X:=Nat) (λxv=>[(2,.bool false),(4,.pointer (some ⟨Z,0,none⟩)),(5,.bool true),(6,.int .i64 ((xv:Nat):Int))]) (λxv wr=>(xv<=5)/\St w.heap.size w wr ((.blk Z (oX x) 35)::(M++[.own 51 11 (.slice A9 F.length J) F.length ((F).flatMap Ac.cells),.own 51 11 (.slice A1 s.length c2) s.length ((s).flatMap Ac.cells),.rd 5 A gs.length ((gs).flatMap Gr.cells)]))) (λxv=>5-xv) (0) ?_ ?_ ?_)))
 ·exact⟨zero_le _,jX⟩
 ·exact⟨E,E,E,E,trivial⟩
 rintro n JB ⟨aou,jP⟩
 try dsimp only at aou jP;clear jX
 refine bH (l':=[(2,.bool false),(4,.pointer (some ⟨Z,0,none⟩)),(5,.bool true),(6,.int .i64 ((n:Nat):Int))]) ⟨E,E,E,E,trivial⟩ (aM (aM (av (vm ?_))));refine vv (Lu 14) ?_;refine vv (au E E (mP underlying31 E (St.cl 0 jP E E))) ?_;refine vv (v:=.int .i64 5) (pI (vs:=[.slice x.BA 5 x.bc]) E ⟨E,trivial⟩ λ_=>adL E underlying31) ?_;by_cases h26:((n:Nat):Int)<5
 ·refine vv (alZ h26) ?_;refine vm ?_;refine vg ym ?_;refine vv ypT ?_;refine qk [2,4,5,6,27] ?_;refine dF (ku E (mo (dF (aM (rM (aM (av (va ?_))))))));refine qk [2,4,5,6,7] ?_;refine dF (rM (fO (X:=Nat) (λxv=>[(2,.bool false),(4,.pointer (some ⟨Z,0,none⟩)),(5,.bool true),(6,.int .i64 ((n:Nat):Int)),(7,.int .i64 ((xv:Nat):Int))]) (λxv wr=>(xv<=2)/\St w.heap.size w wr ((.blk Z (oX x) 35)::(M++[.own 51 11 (.slice A9 F.length J) F.length ((F).flatMap Ac.cells),.own 51 11 (.slice A1 s.length c2) s.length ((s).flatMap Ac.cells),.rd 5 A gs.length ((gs).flatMap Gr.cells)]))) (λxv=>2-xv) (0) ?_ ?_ ?_))
  ·exact⟨zero_le _,jP⟩
  ·exact⟨E,E,E,E,E,trivial⟩
  rintro q MN ⟨aDR,O⟩
  try dsimp only at aDR O;clear jP
  refine bH (l':=[(2,.bool false),(4,.pointer (some ⟨Z,0,none⟩)),(5,.bool true),(6,.int .i64 ((n:Nat):Int)),(7,.int .i64 ((q:Nat):Int))]) ⟨E,E,E,E,E,trivial⟩ (aM (aM (av (vm ?_))));by_cases h30:((q:Nat):Int)<2
  ·refine vv (alZ h30) ?_;refine qk [2,4,5,6,7,31] ?_;refine dF (ku E (mo (dF (aM (rM (aM ?_))))));obtain⟨ps,hpl,hBA,hp1⟩:=hX.ps;obtain⟨bA,oA,hBa⟩:=En hBA O (memT 1 E hmL) (by decide);obtain⟨p,hp⟩:∃p,ps[n]? =some p:=⟨_,getElem?_eq_getElem (by omega)⟩;have hpp:=hp1 _ _ hp;obtain⟨y,hy,hyb⟩:=axh hpp (q:=q) (by omega);obtain⟨hf1,hf2,hf3⟩:=hfin n q (by omega) (by omega);rw[<-hX.d,<-hyb]at hf2 hf3;rw[<-hyb]at hf1;obtain⟨hn2,hn3⟩:=not_or.1 hf1;refine av (vv (Lu 14) ?_);refine vv (au E E (mP underlying31 E (St.cl 0 O E E))) ?_;refine vm ?_;refine vv (v:=.pointer (some ⟨bA,oA+n*1,none⟩)) (bJ E E E (kN n hBa underlying31 kQ E (by omega))) ?_;refine vv (v:=.slice (some ⟨p.1,0,none⟩) 4 4) (au E E (mP underlying43 E (yu hBA hBa O (memT 1 E hmL) (dh (enc:=jN) (sz:=1) (k:=n) (j:=0) (λ_=>E) hp E)))) ?_;refine vm ?_;refine vv (v:=.pointer (some ⟨p.1,0+q*6,none⟩)) (bJ E E E (vX q underlying43 kQ E (by omega))) ?_;refine vv (v:=.agg #[.int .i64 y.b.role,.int .i64 y.b.ep,.int .i64 y.b.fr,.int .i64 y.b.tg,.int .i64 y.b.rd,.slice y.A y.b.evs.length y.c]) (au E E (yE (cs:=BX.cells y) underlying42 E kQ E (λj u hu=>by rw[Nat.add_assoc];exact yu hpp.rd E O (memT 1 E hmL) (dh (enc:=BX.cells) (sz:=6) (k:=q) (λ_=>E) hy hu)))) ?_;refine lS (V:=λb=>.pointer (some ⟨b,0,none⟩)) (row:= #[.int .i64 0,.int .i64 0,.int .i64 0,.int .i64 0,.int .i64 0,.slice none 0 0]) (t:=42) O (wn E) E E (iM E (zeroValue42 _) E) ?_;intro b31 w32 tX;clear O;refine za (fs':=(_::_::(M++[.own 51 11 (.slice A9 F.length J) F.length ((F).flatMap Ac.cells),.own 51 11 (.slice A1 s.length c2) s.length ((s).flatMap Ac.cells),.rd 5 A gs.length ((gs).flatMap Gr.cells)]))) 0 tX (wn E) E E E E E E kQ E (bP E) (le_of_ble_eq_true E) (lZ E) E ?_;intro ZB zo;clear tX;refine qk [2,4,5,6,7,8] ?_;refine Qy (vm ?_);refine vv (Lu 6) ?_;refine vv (Lu 6) ?_;refine vv (v:=.pointer (some ⟨Z,6+q*2,none⟩)) (bJ E E E (fE q underlying28 kQ E (by omega))) ?_;refine vv (v:=.agg #[.int .i64 ((x.d.at q).node),.int .i64 ((x.d.at q).epoch)]) (au E E (yE (cs:=[.int .i64 ((x.d.at q).node),.int .i64 ((x.d.at q).epoch)]) underlying27 E kQ E (λj u hu=>by first|exact St.cl 1 zo rfl (am7 (x:=x) (by omega) j u hu)|(simp only[Nat.zero_add];exact St.cl 1 zo E (am7 (x:=x) (by omega) j u hu))))) ?_;refine lS (V:=λb=>.pointer (some ⟨b,0,none⟩)) (row:= #[.int .i64 0,.int .i64 0]) (t:=27) zo (wn E) E E (iM E (zeroValue27 _) E) ?_;intro MS ZE yC;clear zo;refine za (fs':=(_::_::_::(M++[.own 51 11 (.slice A9 F.length J) F.length ((F).flatMap Ac.cells),.own 51 11 (.slice A1 s.length c2) s.length ((s).flatMap Ac.cells),.rd 5 A gs.length ((gs).flatMap Gr.cells)]))) 0 yC (wn E) E E E E E E kQ E (bP E) (le_of_ble_eq_true E) (lZ E) E ?_;intro w39 I;clear yC;refine qk [2,4,5,6,7,8,9] ?_;refine dF (aM ?_);by_cases hr1:y.b.role=1
   ·obtain⟨hnd,fG⟩:=hf2 hr1;refine av (vv (Lu 0) ?_);refine vv (au E E (mP underlying3 E (St.cl 1 I E E))) ?_;refine vv (Mq (h:=by omega)) ?_;refine vm ?_;refine vg (Lu 0) ?_;refine vg (au E E (mP underlying3 E (St.cl 1 I E E))) ?_;refine vg (Mq (h:=by omega)) ?_;refine vv Sw ?_;refine vm ?_;refine vg (Lu 0) ?_;refine vg (au E E (mP underlying3 E (St.cl 1 I E E))) ?_;refine vg (al2 (h:=by omega)) ?_;refine vg ym ?_;refine vg (Lu 0) ?_;refine vg (au E E (mP underlying3 E (St.cl 0 I E E))) ?_;refine vg ym ?_;refine vg (WK (h:=by omega)) ?_;refine vg ym ?_;refine vg (Lu 1) ?_;refine vg (au E E (mP underlying3 E (St.cl 0 I E E))) ?_;refine vg (Lu 1) ?_;refine vg (au E E (mP underlying3 E (St.cl 1 I E E))) ?_;refine vg (WK (h:=by omega)) ?_;refine vg Sw ?_;refine vg ypT ?_;refine vv Sw ?_;refine vm ?_;refine vg (Lu 0) ?_;refine vg (au E E (mP underlying3 E (St.cl 0 I E E))) ?_;refine vg ym ?_;refine vg (al2 (h:=by omega)) ?_;refine vg ym ?_;refine vg (Lu 0) ?_;refine vg (au E E (mP underlying3 E (St.cl 1 I E E))) ?_;refine vg (WK (h:=by omega)) ?_;refine vg ypT ?_;refine vv Sw ?_;refine qk [2,4,5,6,7,83] ?_;refine dF (jm E (mo (gF (dF (av (vm ?_))))));refine vv (v:=.int .i64 ((q+1:Nat):Int)) (bC E E E (Mk (by omega) (by omega))) ?_;refine va ?_;refine qk [2,4,5,6,7] ?_;have Gp:St _ _ _ (_::(M++[.own 51 11 (.slice A9 F.length J) F.length ((F).flatMap Ac.cells),.own 51 11 (.slice A1 s.length c2) s.length ((s).flatMap Ac.cells),.rd 5 A gs.length ((gs).flatMap Gr.cells)])):=I.oU [1,0];clear I;refine bQ (q+1) ?_ ⟨E,E,E,E,E,trivial⟩ (by first|omega|(dsimp only;omega));exact⟨(by omega),Gp⟩
   have hnn:¬(x.d.at q).node=((n:Nat):Int):=λe=>hr1 (hf3 e);refine av (vv (Lu 0) ?_);refine vv (au E E (mP underlying3 E (St.cl 1 I E E))) ?_;refine vv (Mq (h:=by omega)) ?_;refine vm ?_;refine vg (Lu 0) ?_;refine vg (au E E (mP underlying3 E (St.cl 1 I E E))) ?_;refine vg (Mq (h:=by omega)) ?_;refine vv Sw ?_;refine vm ?_;refine vg (Lu 0) ?_;refine vg (au E E (mP underlying3 E (St.cl 1 I E E))) ?_;refine vg (Mq (h:=by omega)) ?_;refine vg ym ?_;iterate 11 refine vs ?_
   refine vg Sw ?_;refine vv Sw ?_;refine vm ?_;refine vg (Lu 0) ?_;refine vg (au E E (mP underlying3 E (St.cl 0 I E E))) ?_;refine vg ym ?_;refine vg (Mq (h:=by omega)) ?_;refine vg ym ?_;iterate 3 refine vs ?_
   refine vg Sw ?_;refine vv Sw ?_;refine qk [2,4,5,6,7,83] ?_;refine dF (jm E (mo (gF (dF (av (vm ?_))))));refine vv (v:=.int .i64 ((q+1:Nat):Int)) (bC E E E (Mk (by omega) (by omega))) ?_;refine va ?_;refine qk [2,4,5,6,7] ?_;have Cx:St _ _ _ (_::(M++[.own 51 11 (.slice A9 F.length J) F.length ((F).flatMap Ac.cells),.own 51 11 (.slice A1 s.length c2) s.length ((s).flatMap Ac.cells),.rd 5 A gs.length ((gs).flatMap Gr.cells)])):=I.oU [1,0];clear I;refine bQ (q+1) ?_ ⟨E,E,E,E,E,trivial⟩ (by first|omega|(dsimp only;omega));exact⟨(by omega),Cx⟩
  refine vv (al0 h30) ?_;refine qk [2,4,5,6,7,31] ?_;refine dF (jm E (Pt (qG (qG (Bp (gF (dF (av (vm ?_)))))))));refine vv (v:=.int .i64 ((n+1:Nat):Int)) (bC E E E (Mk (by omega) (by omega))) ?_;refine va ?_;refine qk [2,4,5,6] ?_;refine bQ (n+1) ?_ ⟨E,E,E,E,trivial⟩ (by first|omega|(dsimp only;omega));exact⟨(by omega),O⟩
 refine vv (al0 h26) ?_;refine vm ?_;refine vs ?_;refine vv Sw ?_;refine qk [2,4,5,6,27] ?_;refine dF (jm E (Pt (qG (qG (Bp (dF (aM (av (vm ?_)))))))));refine va ?_;refine qk [2] ?_;refine ayQ (pt ?_);exact⟨E,jP.low⟩
section
variable {Q Q2 Q3 y:Qd}{l:List jH}{i j k:Nat}{a b:jH}{e:Ev}
def Mh (Q Q':Qd):Prop:=Q.ep<Q'.ep\/Q.ep=Q'.ep/\Q.gv<=Q'.gv
def Mh.refl:Mh Q Q:=.inr ⟨E,Int.le_refl _⟩
def Mh.trans (h:Mh Q Q2)(I:Mh Q2 Q3):Mh Q Q3:=by unfold Mh at*;omega
def aho:Mh Q (stepM Q e).1/\(stepM Q e).1.ep<=Q.ep+1:=by
 have same:∀ {Q':Qd},Q'.ep=Q.ep->Q.gv<=Q'.gv->Mh Q Q'/\Q'.ep<=Q.ep+1:=λh1 I=>⟨.inr ⟨h1.symm,I⟩,by omega⟩;have h:=same (Q':=Q) E (Int.le_refl _);unfold stepM
 split
 ·unfold BG
  split; · exact h
  split; · exact h
  split; · exact h
  exact same E (Int.le_refl _)
 split
 ·unfold Gl
  split; · exact h
  split; · exact h
  exact same E uQ
 split
 ·unfold Ew
  split; · exact h
  split; · exact h
  exact same E (Int.le_refl _)
 unfold Ey
 split; · exact h
 exact⟨.inl uQ,Int.le_refl _⟩
end
section
variable {m:Cl}{q n k:Nat}{g:Gh}
def LW.axi (h:LW m q g k)(hn:n<5)(J:((m.ah n).view q).role=3):((m.ah n).view q).ep<=g.m/\(((m.ah n).view q).ep=g.m->n=g.o):=by
 have I:=h.qi;by_cases e:n=g.o
 ·subst e;have:=I.q9;unfold vw at this;exact⟨by omega,λ_=>E⟩
 have:=I.mV n hn e;unfold vw at this
 rcases this with⟨h1,_⟩|⟨k,h1,M,O,Z,_⟩|⟨k,h1,_⟩<;>exact⟨by omega,λ_=>by omega⟩
def LW.aV (h:LW m q g k)(hn:n<5)(hs:serves ((m.ah n).view q)):n=g.o/\((m.ah n).view q).ep=g.m:=by
 have I:=h.qi;have e:=Inv.who I hn hs;have:=I.q9;unfold vw at this;rw[<-e]at this;exact⟨e,this⟩
def LW.auth (h:LW m q g k):MJ m q g.o:=by
 have I:=h.qi;have h1:=I.Aw;have O:=I.q9;unfold vw at h1 O;refine⟨I.o5,?_,λn hn J M=>?_⟩
 ·unfold F4 serves;omega
 rcases M with M|M
 ·exact absurd (h.aV hn M).1 J
 obtain⟨h3,Z⟩:=h.axi hn M;have:((m.ah n).view q).ep≠g.m:=λe=>J (Z e);omega
end
end Go.Proofs.YtefabpdniidmbaaGreatDoor
