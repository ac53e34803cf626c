import Derived.Test.YtefabpdniidmbaaGreatDoorG24f19
import Derived.Test.YtefabpdniidmbaaGreatDoorGbba67
import Derived.Test.YtefabpdniidmbaaGreatDoorGbedf8
set_option linter.all false
set_option maxRecDepth 100000
set_option maxHeartbeats 8000000
namespace Go.Proofs.YtefabpdniidmbaaGreatDoor
open List Nat Go.Proofs.Tryz ChangeShapes WideShapes RowKit
def yG{l:List UInt8}{s:Int}(h:dx l s=true):Xb l s=(l,(l.length:Int),0):=if_pos h
def mI{H:List LX}{P:LX->Prop}:∀u∈H,u∈H\/P u:=λ_ h=>.inl h
def KN{kn kw:Nat}{L:List J8}{p:bS}{v:Value}(h:qc kn kw L (some p) v):∃f xs ys,v=.func f xs ys:=by
 match p,h with
 | .serve ..,⟨_,_,_,_,_,_,_,_,_,h,_⟩=>exact⟨_,_,_,h⟩
 | .Ns ..,⟨_,_,_,_,_,h,_⟩=>exact⟨_,_,_,h⟩
 | .QU ..,⟨_,_,_,_,_,_,_,h,_⟩=>exact⟨_,_,_,h⟩
 | .fG ..,⟨_,_,_,_,_,_,_,h,_⟩=>exact⟨_,_,_,h⟩
 | .Ni ..,⟨_,_,_,_,h,_⟩=>exact⟨_,_,_,h⟩
def dX.IK{K:CK}{L L':List J8}{n q c:Nat}{X:Nd}{z:NX}{A:Option Addr}{dz:BX}(h:dX K L n X z)(M:q<4)(I:∀f∈L,f∈L')(O: .cZ 1 A X.data.length (Gt X.data)∈L')(Z:Cn L dz):
 dX K L' n (X.jE.ay q dz.b) {z with tA:=A,tc:=c,pv:=.nilFunc,bx:=z.bx.set q dz}:=
 ⟨Jk h.Ry M,Ez (λu J=>(h.TF u J).mono I) (Z.mono I),Ro.cZ O,h.ixm,λu J=>(h.ixo u J).mono I,E⟩
def dX.aDz{K:CK}{L N:List J8}{n c:Nat}{X:Nd}{z:NX}{A:Option Addr}{x:LX}{r:List LX}{v:Value}(h:dX K L n X z)(M:z.ix=x::r)(hv:z.pv=v):dX K (L++N) n (X.box (r.map LX.l)) {z with iA:=A,ic:=c,ix:=r,pv:=v}:=
 ⟨h.Ry,λu J=>(h.TF u J).mono λ_ I=>mem_append_left _ I,h.yh.mono λ_ I=>mem_append_left _ I,E,λu J=>(h.ixo u (by rw[M];exact mem_cons_of_mem _ J)).mono λ_ I=>mem_append_left _ I,qc.mono (by have:=h.lu;rw[hv]at this;exact this) λ_ I=>mem_append_left _ I⟩
def adt{K:CK}{B n kn kw:Nat}{w0:World}{m:Cl}{H:List LX}{x:LX}(hn:n<5)(I:K.nb n=kn)(J:K.wb=kw)(Z:Uk B w0)(M:m.Ms.length<=1000000000)(O:m.aP.length<=1000000000000)(hq:x.l.q<4)(hv:∀q,q<4->au ((m.ah n).bs q)=0)(hxe:x.l.Gs.length<=2000)(hkd:x.l.kd=0\/x.l.kd=2\/x.l.kd=3\/x.l.kd=4\/x.l.kd=6):
 ∃F:FuncId,(∀args w,(callFunc F args).run tP w=.ok (.enter F args) w)/\hMf kw x.l.kd=some (.func (.func F) #[pV kw 0] #[])/\(-9223372036854775808<=x.l.kd/\x.l.kd<=9223372036854775807)/\ ∀w fs,Wd K B w0 w fs m (x::H)->Calls tP F #[pV kw 0,pV kn 0,.agg (LX.row x)] w (λe w'=>e=.returned (.tuple #[])/\Wd K B w0 w' fs (m.Ng n x.l) H):=by
 rcases hkd with h|h|h|h|h<;>unfold Cl.Ng<;>simp only[h]
 ·exact⟨64,eQ,E,by decide,λw fs HW=>Vv hn I J Z M O HW hq hv⟩
 ·exact⟨65,eQ,E,by decide,λw fs HW=>acw hn I J Z M O HW hq hv⟩
 ·exact⟨66,eQ,E,by decide,λw fs HW=>acr hn I J Z M O HW hq hv⟩
 ·exact⟨67,eQ,E,by decide,λw fs HW=>YO hn I J Z M O HW hq hv hxe⟩
 exact⟨68,eQ,E,by decide,λw fs HW=>abS hn I J Z M O HW hq hv⟩
def Y3{K:CK}{B n kn kw:Nat}{w0 w:World}{fs:List J8}{m:Cl}{H:List LX}(hn:n<5)(Z:K.nb n=kn)(iH:K.wb=kw)(hu:Uk B w0)(hB1:m.Ms.length+(m.ah n).Md.length<=900000000)(hB2:m.aP.length+(m.ah n).Md.length<=900000000000)(htn:(m.ah n).turn<=1000000000000)(HW:Wd K B w0 w fs m H)(hv:∀q,q<4->au ((m.ah n).bs q)=0)(hok:∀l∈(m.ah n).Md,l.ok)(Tg:∀p,(m.ah n).Mw=some p->p.fit/\dx (m.ah n).data (m.ah n).MC=true):
 Calls tP 33 #[pV kw 0,pV kn 0] w (λe w'=>e=.returned (.tuple #[])/\Wd K B w0 w' fs (m.step n) H):=by
 obtain⟨R,G,S0⟩:=HW.open hn;have hfl:R.fx.length=m.Ms.length:=by rw[<-G.Ms,length_map]
 have NG:=G.iK n hn;obtain⟨X,hX⟩:∃X,m.ah n=X:=⟨_,E⟩;obtain⟨z,hz⟩:∃z,R.nx n=z:=⟨_,E⟩;rw[hX,hz]at S0 NG;have O:∀f∈R.L,f∈gG K R m fs n:=λf h=>mem_append_right _ (mem_append_right _ h);obtain⟨rr,hrr⟩:∃r,gG K R m fs n=r:=⟨_,E⟩;rw[hrr]at S0 O;obtain⟨pv0,avb⟩:∃v,z.pv=v:=⟨_,E⟩;have S:St B w0 w (cN kn n X z pv0 (cF kw R m rr)):=by rw[<-avb];subst Z;subst iH;exact S0
 clear S0;have hlen:=(S.own 1 E).1;rw[iL (sz:=6) (λ_=>E)]at hlen;refine gP 79 func33 ?_;refine cw [0,1] ?_;refine zN 7 ?_
 cases hb1:(X.up)
 ·refine zN 7 ?_;rw[mM (by rw[hX];assumption)];exact⟨E,HW⟩
 refine zN 8 ?_;have hpn:=NG.lu;change qc (K.nb n) K.wb _ _ _ at hpn;rw[Z,iH,avb]at hpn
 rcases hp:X.Mw with _|p
 ·rw[hp]at hpn;have hpf:pv0=.nilFunc:=hpn;subst hpf;refine zN 5 ?_;refine vv (v:=.bool false) (bM E E E KC) ?_;refine zN 7 ?_;refine fJ (X:=Cl) (λxv=>[(0,pV kw 0),(1,pV kn 0)]) (λxv wr=>(Wd K B w0 wr fs xv H)/\(m.more n=xv.more n)/\(xv.Ms.length+(xv.ah n).Md.length<=900000000)/\(xv.aP.length+(xv.ah n).Md.length<=900000000000)/\(∀q,q<4->au ((xv.ah n).bs q)=0)/\(∀l∈(xv.ah n).Md,l.ok)/\((xv.ah n).turn=(m.ah n).turn)/\St B w0 wr []) (λxv=>(xv.ah n).Md.length) (m) ?_ ?_ ?_
  ·exact⟨HW,E,hB1,hB2,hv,hok,E,Wd.Iy (gs:=[]) HW⟩
  ·exact xR
  rintro mm w2 ⟨hi4,hi5,hi6,hi7,hi8,hi9,Xu,S3⟩
  try dsimp only at hi4 hi5 hi6 hi7 hi8 hi9 Xu S3
  refine bI (l':=[(0,pV kw 0),(1,pV kn 0)]) xR ?_;obtain⟨R2,G2,S0⟩:=hi4.open hn;have NG2:=G2.iK n hn;obtain⟨X2,hX2⟩:∃X,mm.ah n=X:=⟨_,E⟩;obtain⟨z2,hz2⟩:∃z,R2.nx n=z:=⟨_,E⟩;rw[hX2,hz2]at S0 NG2;have hL2:∀f∈R2.L,f∈gG K R2 mm fs n:=λf h=>mem_append_right _ (mem_append_right _ h);obtain⟨rr2,avc⟩:∃r,gG K R2 mm fs n=r:=⟨_,E⟩;rw[avc]at S0 hL2;obtain⟨pv2,hpv2⟩:∃v,z2.pv=v:=⟨_,E⟩;obtain⟨iA2,aDA⟩:∃v,z2.iA=v:=⟨_,E⟩;obtain⟨ixv,aiA⟩:∃v,z2.ix=v:=⟨_,E⟩;have Pk:=NG2.ixm;have Xv:=NG2.lu;change qc (K.nb n) K.wb _ _ _ at Xv;rw[Z,iH,hpv2]at Xv;rw[aiA]at Pk;have S1:St B w0 w2 (nF kn n X2.up z2.tA X2.data z2.tc X2.MC z2.bb X2.Nh X2.Nf iA2 ixv z2.ic pv2 X2.turn z2.bx (cF kw R2 mm rr2)):=by rw[<-hpv2,<-aDA,<-aiA];subst Z;subst iH;exact S0
  clear S0;rw[hX2]at hi6 hi7 hi8 hi9 Xu
  rcases hp2:X2.Mw with _|p2
  ·rw[hp2]at Xv;have aoX:pv2=.nilFunc:=Xv;subst aoX;refine zN 8 ?_;by_cases h11:0< (ixv.length:Int)
   ·refine zN 6 ?_;refine vg (v:=.bool true) (bM E E E TI) ?_;refine zN 8 ?_;obtain⟨x,Pm,hxx⟩:=exists_cons_of_length_pos (by omega:0<ixv.length);subst hxx;refine zN 5 ?_;obtain⟨rb,ro,hra,_,hrc⟩:=(St.av7 2 S1 E).2 iQ;subst hra;refine vv (ko 0) ?_;refine vv (v:=.agg (LX.row x)) (aj E E (dP (cs:=LX.cells x) (λj u hu=>by rw[Nat.add_assoc];exact hrc (0*23+j) u (bE (enc:=LX.cells) (sz:=23) (k:=0) (λ_=>E) E hu)))) ?_;refine gD S1 ad8 ?_;intro b12 En mZ;refine stA 0 mZ kQ ?_ (h1:=Ew _);intro JR o8;refine zN 9 ?_;refine vv (v:=.slice (if z2.ic=1 then(some ⟨rb,ro,none⟩:Option Addr)else(some ⟨rb,ro,none⟩:Option Addr).map (·.add (1*23))) ((x::Pm).length-1) (z2.ic-1)) (jZ E E (jy E) nZ nZ (alk 1 underlying91 kQ iQ _)) ?_;refine zN 2 ?_;refine jH (row':=dN n X2.up (.slice z2.tA X2.data.length z2.tc) X2.MC (.slice (aD z2.bb 0) 4 4) X2.Nh X2.Nf (.slice (if z2.ic=1 then(some ⟨rb,ro,none⟩:Option Addr)else(some ⟨rb,ro,none⟩:Option Addr).map (·.add (1*23))) ((x::Pm).length-1) (z2.ic-1)) (.nilFunc) X2.turn) 1 o8 kQ ?_;intro MZ qO;refine zN 2 ?_;have uM:=qO.eH [7,7,7,7,7,7,7];have qj:=uM.aqB 2 1 E iQ;obtain⟨hq,hxe,hkd⟩:=hi9 x.l (by rw[<-Pk];exact mem_cons_self ..);have avd:=Wd.dR (fs:=[.Mg b12 (LX.row x) 119]++fs) (X':=(X2.box (Pm.map LX.l))) (z':={z2 with iA:=(if z2.ic=1 then(some ⟨rb,ro,none⟩:Option Addr)else(some ⟨rb,ro,none⟩:Option Addr).map (·.add (1*23))),ic:=z2.ic-1,ix:=Pm,pv:=.nilFunc}) (m':=mm.put n (X2.box (Pm.map LX.l))) (H':=x::H) (Ls:=[]) (fA:=R2.fA) (fc:=R2.fc) (fx:=R2.fx) (sA:=R2.sA) (sc:=R2.sc) (tA:=R2.tA) (tc:=R2.tc) (rr:=.Mg b12 (LX.row x) 119::rr2) Z iH (by rw[<-avc];rfl) G2 hn qj (NG2.aDz aiA hpv2) (λu hu=>.inl hu) E G2.Ms.symm (λu hu=>(mem_cons.1 hu).elim (λe=>.inr (e▸(by rw[append_nil];exact NG2.ixo x (by rw[aiA];exact mem_cons_self ..)))) .inl);subst hX2;have jY:=Wd.Iy (gs:=[.Mg b12 (LX.row x) 119]) avd;have heh:=jW (m:=mm.put n ((mm.ah n).box (Pm.map LX.l))) (n:=n) (l:=x.l) hq;obtain⟨F,hfe,hfv,hfz,hfc⟩:=adt (K:=K) (B:=B) (w0:=w0) (m:=mm.put n ((mm.ah n).box (Pm.map LX.l))) (H:=H) (x:=x) hn Z iH hu (by show mm.Ms.length<=_;omega) (by show mm.aP.length<=_;omega) hq (by rw[aX];exact hi8) hxe hkd;have tJ:=jY.drew;refine aK 8 tJ [] ?_;refine aL 5 ?_;refine bg 1 ?_;refine kE 1 E eQ (abe kw _) ?_;rintro _ VX ⟨b29,rfl,T32⟩;refine⟨_,E,?_⟩;have ave:=(Wd.drew avd).ext T32 E;have oW:=Wd.Iy (gs:=[.loc b29 (hMk kw),.Mg b12 (LX.row x) 119]) ave;refine dG ?_;refine bg 4 ?_;refine ji (i:=4) E E (v:=.func (.func F) #[pV kw 0] #[]) (wn E) E E (kr 0 oW E E E E underlying3 underlying141 (zeroValue140 _) hfz hfv) ?_;refine dG ?_;refine bg 7 ?_;refine nC 7 E hfe (hfc _ _ ave) ?_;rintro _ ZQ ⟨rfl,avf⟩;refine⟨_,E,?_⟩;have tH:=Wd.Iy (gs:=[.loc b29 (hMk kw),.Mg b12 (LX.row x) 119]) avf;have avg:=Wd.less (gs:=[.loc b29 (hMk kw),.Mg b12 (LX.row x) 119]) avf;refine aL 2 ?_;refine zQ ?_;refine bC (((mm.put n ((mm.ah n).box (Pm.map LX.l))).Ng n x.l)) ?_ xR (by(try dsimp only);rw[heh.iP,aX,<-Pk];simp[Nd.box]);exact⟨avg,(hi5.trans (GZ hp2 Pk.symm hq)),(by(try dsimp only);rw[heh.iP,aX];have:=heh.Ms;rw[show((mm.ah n).box (Pm.map LX.l)).Md.length=Pm.length from length_map ..];rw[<-Pk]at hi6;simp only[length_map,length_cons]at hi6;have e9:(mm.put n ((mm.ah n).box (Pm.map LX.l))).Ms=mm.Ms:=rfl;rw[e9]at this;omega),(by(try dsimp only);rw[heh.iP,aX];have:=heh.aP;rw[show((mm.ah n).box (Pm.map LX.l)).Md.length=Pm.length from length_map ..];rw[<-Pk]at hi7;simp only[length_map,length_cons]at hi7;have e9:(mm.put n ((mm.ah n).box (Pm.map LX.l))).aP=mm.aP:=rfl;rw[e9]at this;omega),(heh.lg (by rw[aX];exact hi8)),(by(try dsimp only);rw[heh.iP,aX];exact λl hl=>hi9 l (by rw[<-Pk];exact mem_cons_of_mem _ hl)),(by(try dsimp only);rw[heh.FZ,aX];exact Xu),(Wd.Iy (gs:=[]) avg)⟩
   refine zN 22 ?_;refine vv (v:=.bool true) (bM E E E TI) ?_;refine zN 6 ?_;refine dJ eQ (YP hn Z iH hu Y Y hi4 (by rw[hX2,Xu];exact htn) (by rw[hX2];exact hi8)) ?_;rintro _ w98 ⟨rfl,aDB⟩;refine⟨_,E,?_⟩;refine zQ ?_;refine bX (l':=[]) trivial (oV ?_);have J:X.up=true:=by assumption
   have hmo:m.more n=mm:=hi5.trans (KE (by rw[hX2,<-Pk,length_eq_zero_iff.1 (by omega:ixv.length=0)];rfl));rw[jf (by rw[hX];exact J) (by rw[hX];exact hp),hmo,if_pos (by rw[hX2,hp2])];exact⟨E,aDB⟩
  rw[hp2]at Xv;obtain⟨f2,xs2,ys2,aoX⟩:=KN Xv;subst aoX;refine zN 8 ?_;by_cases aLw:0< (ixv.length:Int)
  ·refine zN 6 ?_;refine vg (v:=.bool false) (bM E E E KD) ?_;refine zN 15 ?_;refine vv (v:=.bool false) (bM E E E KD) ?_;refine zN 5 ?_;have J:X.up=true:=by assumption
   have hmo:m.more n=mm:=hi5.trans (Co (by rw[hX2,hp2];simp));rw[jf (by rw[hX];exact J) (by rw[hX];exact hp),hmo,if_neg (by rw[hX2,hp2];simp)];exact⟨E,hi4⟩
  refine zN 22 ?_;refine vv (v:=.bool false) (bM E E E KD) ?_;refine zN 5 ?_;have J:X.up=true:=by assumption
  have hmo:m.more n=mm:=hi5.trans (Co (by rw[hX2,hp2];simp));rw[jf (by rw[hX];exact J) (by rw[hX];exact hp),hmo,if_neg (by rw[hX2,hp2];simp)];exact⟨E,hi4⟩
 obtain⟨hft,htm⟩:=Tg _ (hX▸hp);rw[hX]at htm
 rcases p with⟨q,Gs,op,num,a⟩|⟨q,b⟩|⟨q,b,last⟩|⟨q,b,at_⟩|⟨q,b⟩
 ·rw[hp]at hpn;obtain⟨b1,b2,b3,b4,b5,b6,b7,M,x,hpf,hm1,he,I,hm2,GY,M8,Ua,hm6,hop,aDC,hm7⟩:=hpn;subst hpf;subst he;subst hop;subst aDC;have hq:q<4:=hft.1;obtain⟨y,hy,hyb,qE⟩:=NG.at_ hq;refine zN 5 ?_;refine vv (v:=.bool true) (bM E E E xI) ?_;refine zN 9 ?_;refine vv (aj E E (dP (cs:=[.slice z.tA X.data.length z.tc,D X.MC]) (St.rg 0 S E (sj)))) ?_;have Gi:=λw h=>BD (pJ z.tA X.data.length z.tc X.data X.MC w h);rw[yG htm]at Gi;refine dJ eQ (Gi _ (NG.yh.rd S (M9 7 E O))) ?_;rintro _ aDD ⟨Xw,aiB,rfl,aDE⟩;refine⟨_,E,?_⟩;have yT:=S.ext aDE E;refine zN 5 ?_;refine jH (row':=dN n X.up (.slice Xw X.data.length aiB) ((X.data.length:Nat):Int) (.slice (aD z.bb 0) 4 4) X.Nh X.Nf (.slice z.iA z.ix.length z.ic) (.func (.func 88) #[] #[gV b1,gV b2,gV b3,gV b4,gV b5]) X.turn) 1 yT kQ ?_;intro abT EX;refine zN 16 ?_;refine jH (row':=dN n X.up (.slice Xw X.data.length aiB) ((X.data.length:Nat):Int) (.slice (aD z.bb 0) 4 4) X.Nh X.Nf (.slice z.iA z.ix.length z.ic) (.nilFunc) X.turn) 1 EX kQ ?_;intro atV Je;refine zN 5 ?_;have qZ:=Je.eH [7,7,7,7,7,7,7];refine wJ eQ (RL hn hq hy qZ (M9 1 E O _ hm1) (M9 1 E O _ hm2) (M9 1 E O _ GY) (M9 1 E O _ M8) (M9 1 E O _ Ua) (M9 1 E O _ hm6) (M9 1 E O _ hm7) hu Y Y) ?_;rintro _ abV ⟨rfl,hd1,hd2⟩;refine⟨_,E,?_⟩;refine zQ ?_;refine bX (l':=[]) trivial (iw (oH (iB (dW (rs:=[]) (vs:=[]) E trivial ?_))));have J:X.up=true:=by assumption
  by_cases hs:Nl y.b
  ·obtain⟨sA',sc',sv',J2,J3,OQ,h1,h2,S9⟩:=hd1 hs;subst h1;subst h2;rw[jw hX J hp hyb.symm hs];exact⟨E,Wd.dR (X':=X.jE.ay q {y.b with Gs:=M.b.Gs}) (z':={z with tA:=Xw,tc:=aiB,pv:=.nilFunc,bx:=z.bx.set q (⟨{y.b with Gs:=M.b.Gs},M.A,M.c⟩:BX)}) (Ls:=[.cZ 1 Xw X.data.length (Gt X.data)]) (fA:=J2) (fc:=J3) (fx:=_) (sA:=sA') (sc:=sc') (tA:=R.tA) (tc:=R.tc) Z iH hrr G hn S9 (NG.IK hq (dz:=(⟨{y.b with Gs:=M.b.Gs},M.A,M.c⟩:BX)) (λf hf=>mem_append_left _ hf) (mem_append_right _ (mem_singleton.2 E)) I) (pE (je E)) E (by rw[map_append,G.Ms];rfl) mI⟩
  obtain⟨J2,J3,OQ,h2,S9⟩:=hd2 hs;subst h2;rw[abL hX J hp hyb.symm hs];exact⟨E,Wd.dR (X':=X.jE.ay q {y.b with Gs:=M.b.Gs}) (z':={z with tA:=Xw,tc:=aiB,pv:=.nilFunc,bx:=z.bx.set q (⟨{y.b with Gs:=M.b.Gs},M.A,M.c⟩:BX)}) (Ls:=[.cZ 1 Xw X.data.length (Gt X.data)]) (fA:=J2) (fc:=J3) (fx:=_) (sA:=R.sA) (sc:=R.sc) (tA:=R.tA) (tc:=R.tc) Z iH hrr G hn S9 (NG.IK hq (dz:=(⟨{y.b with Gs:=M.b.Gs},M.A,M.c⟩:BX)) (λf hf=>mem_append_left _ hf) (mem_append_right _ (mem_singleton.2 E)) I) (pE (je E)) E (by rw[map_append,G.Ms];rfl) mI⟩
 ·rw[hp]at hpn;obtain⟨b1,b2,b3,b4,M,hpf,hm1,he,I,hm2,GY,M8⟩:=hpn;subst hpf;subst he;have hq:q<4:=hft;obtain⟨y,hy,hyb,qE⟩:=NG.at_ hq;refine zN 5 ?_;refine vv (v:=.bool true) (bM E E E xI) ?_;refine zN 9 ?_;refine vv (aj E E (dP (cs:=[.slice z.tA X.data.length z.tc,D X.MC]) (St.rg 0 S E (sj)))) ?_;have Gi:=λw h=>BD (pJ z.tA X.data.length z.tc X.data X.MC w h);rw[yG htm]at Gi;refine dJ eQ (Gi _ (NG.yh.rd S (M9 7 E O))) ?_;rintro _ aif ⟨aiC,aoY,rfl,aDF⟩;refine⟨_,E,?_⟩;have qx:=S.ext aDF E;refine zN 5 ?_;refine jH (row':=dN n X.up (.slice aiC X.data.length aoY) ((X.data.length:Nat):Int) (.slice (aD z.bb 0) 4 4) X.Nh X.Nf (.slice z.iA z.ix.length z.ic) (.func (.func 91) #[] #[gV b1,gV b2,gV b3,gV b4]) X.turn) 1 qx kQ ?_;intro abW wO;refine zN 16 ?_;refine jH (row':=dN n X.up (.slice aiC X.data.length aoY) ((X.data.length:Nat):Int) (.slice (aD z.bb 0) 4 4) X.Nh X.Nf (.slice z.iA z.ix.length z.ic) (.nilFunc) X.turn) 1 wO kQ ?_;intro anY sM;refine zN 5 ?_;have GU:=sM.eH [7,7,7,7,7,7,7];refine wJ eQ (RN hn hq hy GU (M9 1 E O _ hm1) (M9 1 E O _ hm2) (M9 1 E O _ GY) (M9 1 E O _ M8) Y) ?_;rintro _ anZ ⟨rfl,J2,J3,OQ,hf',S9⟩;refine⟨_,E,?_⟩;refine zQ ?_;refine bX (l':=[]) trivial (iw (oH (iB (dW (rs:=[]) (vs:=[]) E trivial ?_))));have J:X.up=true:=by assumption
  subst hf';rw[nJ hX J hp];exact⟨E,Wd.dR (X':=X.jE.ay q M.b) (z':={z with tA:=aiC,tc:=aoY,pv:=.nilFunc,bx:=z.bx.set q M}) (Ls:=[.cZ 1 aiC X.data.length (Gt X.data)]) (fA:=J2) (fc:=J3) (fx:=_) (sA:=R.sA) (sc:=R.sc) (tA:=R.tA) (tc:=R.tc) Z iH hrr G hn S9 (NG.IK hq (dz:=M) (λf hf=>mem_append_left _ hf) (mem_append_right _ (mem_singleton.2 E)) I) (pE (je E)) E (by rw[map_append,G.Ms];rfl) mI⟩
 ·rw[hp]at hpn;obtain⟨b1,b2,b3,b4,b5,M,x,hpf,hm1,he,I,hm2,GY,M8,hla,Ua⟩:=hpn;subst hpf;subst he;subst hla;have hq:q<4:=hft;obtain⟨y,hy,hyb,qE⟩:=NG.at_ hq;refine zN 5 ?_;refine vv (v:=.bool true) (bM E E E xI) ?_;refine zN 9 ?_;refine vv (aj E E (dP (cs:=[.slice z.tA X.data.length z.tc,D X.MC]) (St.rg 0 S E (sj)))) ?_;have Gi:=λw h=>BD (pJ z.tA X.data.length z.tc X.data X.MC w h);rw[yG htm]at Gi;refine dJ eQ (Gi _ (NG.yh.rd S (M9 7 E O))) ?_;rintro _ aoa ⟨Xx,c124,rfl,aDG⟩;refine⟨_,E,?_⟩;have xW:=S.ext aDG E;refine zN 5 ?_;refine jH (row':=dN n X.up (.slice Xx X.data.length c124) ((X.data.length:Nat):Int) (.slice (aD z.bb 0) 4 4) X.Nh X.Nf (.slice z.iA z.ix.length z.ic) (.func (.func 96) #[] #[gV b1,gV b2,gV b3,gV b4,gV b5]) X.turn) 1 xW kQ ?_;intro aAZ Am;refine zN 16 ?_;refine jH (row':=dN n X.up (.slice Xx X.data.length c124) ((X.data.length:Nat):Int) (.slice (aD z.bb 0) 4 4) X.Nh X.Nf (.slice z.iA z.ix.length z.ic) (.nilFunc) X.turn) 1 Am kQ ?_;intro aoi yU;refine zN 5 ?_;have yP:=yU.eH [7,7,7,7,7,7,7];refine wJ eQ (Y1 hn hq hy yP (M9 1 E O _ hm1) (M9 1 E O _ hm2) (M9 1 E O _ GY) (M9 1 E O _ M8) (M9 1 E O _ Ua) Y Y) ?_;rintro _ abv ⟨rfl,hd1,hd2⟩;refine⟨_,E,?_⟩;refine zQ ?_;refine bX (l':=[]) trivial (iw (oH (iB (dW (rs:=[]) (vs:=[]) E trivial ?_))));have J:X.up=true:=by assumption
  cases hla:x.l.last
  ·obtain⟨J2,J3,OQ,h2,S9⟩:=hd2 hla;subst h2;rw[sD hX J (by rw[hp,hla])];exact⟨E,Wd.dR (X':=X.jE.ay q M.b) (z':={z with tA:=Xx,tc:=c124,pv:=.nilFunc,bx:=z.bx.set q M}) (Ls:=[.cZ 1 Xx X.data.length (Gt X.data)]) (fA:=J2) (fc:=J3) (fx:=_) (sA:=R.sA) (sc:=R.sc) (tA:=R.tA) (tc:=R.tc) Z iH hrr G hn S9 (NG.IK hq (dz:=M) (λf hf=>mem_append_left _ hf) (mem_append_right _ (mem_singleton.2 E)) I) (pE (je E)) E (by rw[map_append,G.Ms];rfl) mI⟩
  obtain⟨sA',sc',sv',h1,S9⟩:=hd1 hla;subst h1;rw[jU hX J (by rw[hp,hla])];exact⟨E,Wd.dR (X':={ (X.jE.ay q M.b)with Nf:=Na X.Nf q false}) (z':={z with tA:=Xx,tc:=c124,pv:=.nilFunc,bx:=z.bx.set q M}) (Ls:=[.cZ 1 Xx X.data.length (Gt X.data)]) (fA:=R.fA) (fc:=R.fc) (fx:=R.fx) (sA:=sA') (sc:=sc') (tA:=R.tA) (tc:=R.tc) Z iH hrr G hn S9 (dX.Ny (NG.IK hq (dz:=M) (λf hf=>mem_append_left _ hf) (mem_append_right _ (mem_singleton.2 E)) I)) (λu hu=>.inl hu) E G.Ms.symm mI⟩
 ·rw[hp]at hpn;obtain⟨b1,b2,b3,b4,b5,M,x,hpf,hm1,he,I,hm2,GY,M8,Ua,hla⟩:=hpn;subst hpf;subst he;subst hla;have hq:q<4:=hft.1;obtain⟨y,hy,hyb,qE⟩:=NG.at_ hq;refine zN 5 ?_;refine vv (v:=.bool true) (bM E E E xI) ?_;refine zN 9 ?_;refine vv (aj E E (dP (cs:=[.slice z.tA X.data.length z.tc,D X.MC]) (St.rg 0 S E (sj)))) ?_;have Gi:=λw h=>BD (pJ z.tA X.data.length z.tc X.data X.MC w h);rw[yG htm]at Gi;refine dJ eQ (Gi _ (NG.yh.rd S (M9 7 E O))) ?_;rintro _ abF ⟨aiD,aoZ,rfl,aoD⟩;refine⟨_,E,?_⟩;have ES:=S.ext aoD E;refine zN 5 ?_;refine jH (row':=dN n X.up (.slice aiD X.data.length aoZ) ((X.data.length:Nat):Int) (.slice (aD z.bb 0) 4 4) X.Nh X.Nf (.slice z.iA z.ix.length z.ic) (.func (.func 94) #[] #[gV b1,gV b2,gV b3,gV b4,gV b5]) X.turn) 1 ES kQ ?_;intro az8 Df;refine zN 16 ?_;refine jH (row':=dN n X.up (.slice aiD X.data.length aoZ) ((X.data.length:Nat):Int) (.slice (aD z.bb 0) 4 4) X.Nh X.Nf (.slice z.iA z.ix.length z.ic) (.nilFunc) X.turn) 1 Df kQ ?_;intro aub I8;refine zN 5 ?_;have WZ:=I8.eH [7,7,7,7,7,7,7];have aLx:=kH (jD hft.2);have aiz:M.b.Gs.length*48<=reachBytes:=by unfold reachBytes;omega
  have ac0:=xH hft.2;refine wJ eQ (Vy (L:=R.L) hn hq hy WZ (M9 1 E O _ hm1) (M9 1 E O _ hm2) (M9 1 E O _ GY) (M9 1 E O _ M8) (M9 1 E O _ Ua) I (M9 1 E O) aiz ac0 Y) ?_;rintro _ aib ⟨rfl,J2,J3,OQ,N,hf',hx',S9⟩;refine⟨_,E,?_⟩;refine zQ ?_;refine bX (l':=[]) trivial (iw (oH (iB (dW (rs:=[]) (vs:=[]) E trivial ?_))));have J:X.up=true:=by assumption
  rw[pX hX J hp];exact⟨E,Wd.fin (X':=X.jE.ay q M.b) (z':={z with tA:=aiD,tc:=aoZ,pv:=.nilFunc,bx:=z.bx.set q M}) (N:=N) (Ls:=[.cZ 1 aiD X.data.length (Gt X.data)]) (fA:=J2) (fc:=J3) (fx:=OQ) (sA:=R.sA) (sc:=R.sc) (tA:=R.tA) (tc:=R.tc) Z iH hrr G hn S9 (NG.IK hq (dz:=M) (λf hf=>mem_append_left _ hf) (mem_append_right _ (mem_append_right _ (mem_singleton.2 E))) I) (λu hu=>(hx' u hu).imp id λh=>h.mono λf hf=>mem_append_right _ (mem_append_left _ hf)) E (by rw[hf',G.Ms]) mI⟩
 rw[hp]at hpn;obtain⟨b1,b2,b3,M,hpf,hm1,he,I,hm2,GY⟩:=hpn;subst hpf;subst he;have hq:q<4:=hft;obtain⟨y,hy,hyb,qE⟩:=NG.at_ hq;refine zN 5 ?_;refine vv (v:=.bool true) (bM E E E xI) ?_;refine zN 9 ?_;refine vv (aj E E (dP (cs:=[.slice z.tA X.data.length z.tc,D X.MC]) (St.rg 0 S E (sj)))) ?_;have Gi:=λw h=>BD (pJ z.tA X.data.length z.tc X.data X.MC w h);rw[yG htm]at Gi;refine dJ eQ (Gi _ (NG.yh.rd S (M9 7 E O))) ?_;rintro _ atf ⟨Sg,c146,rfl,aDH⟩;refine⟨_,E,?_⟩;have N8:=S.ext aDH E;refine zN 5 ?_;refine jH (row':=dN n X.up (.slice Sg X.data.length c146) ((X.data.length:Nat):Int) (.slice (aD z.bb 0) 4 4) X.Nh X.Nf (.slice z.iA z.ix.length z.ic) (.func (.func 98) #[] #[gV b1,gV b2,gV b3]) X.turn) 1 N8 kQ ?_;intro as4 Oa;refine zN 16 ?_;refine jH (row':=dN n X.up (.slice Sg X.data.length c146) ((X.data.length:Nat):Int) (.slice (aD z.bb 0) 4 4) X.Nh X.Nf (.slice z.iA z.ix.length z.ic) (.nilFunc) X.turn) 1 Oa kQ ?_;intro aLy ao0;refine zN 5 ?_;have MB:=ao0.eH [7,7,7,7,7,7,7];refine wJ eQ (acv hn hq hy MB (M9 1 E O _ hm1) (M9 1 E O _ hm2) (M9 1 E O _ GY)) ?_;rintro _ aB9 ⟨rfl,S9⟩;refine⟨_,E,?_⟩;refine zQ ?_;refine bX (l':=[]) trivial (iw (oH (iB (dW (rs:=[]) (vs:=[]) E trivial ?_))));have J:X.up=true:=by assumption
 rw[l5 hX J hp];exact⟨E,Wd.dR (X':=X.jE.ay q M.b) (z':={z with tA:=Sg,tc:=c146,pv:=.nilFunc,bx:=z.bx.set q M}) (Ls:=[.cZ 1 Sg X.data.length (Gt X.data)]) (fA:=R.fA) (fc:=R.fc) (fx:=R.fx) (sA:=R.sA) (sc:=R.sc) (tA:=R.tA) (tc:=R.tc) Z iH hrr G hn S9 (NG.IK hq (dz:=M) (λf hf=>mem_append_left _ hf) (mem_append_right _ (mem_singleton.2 E)) I) (λu hu=>.inl hu) E G.Ms.symm mI⟩
def nN{L i:Nat}(h:i<L):(range L).drop i=i::(range L).drop (i+1):=by
 rw[drop_eq_getElem_cons (by rw[length_range];exact h),getElem_range]
def fq{P:Program}{w:World}{t e:TypeId}{A:Option Addr}{b off n c s:Nat}{i:Int}{kd:IntKind}(k:Nat)(I:A=some ⟨b,off,none⟩)(J:P.underlying t=some (.slice e))(M:(P.info? e).map (·.size)=some s)(h:i=k)(O:k<n):
 (Instr.indexAt t (.slice A n c) (.int kd i)).run P w=.ok (pV b (off+k*s)) w:=by
 subst I;exact jP k J M h O
section
variable {L fs:List J8}{B n s:Nat}{w0 w:World}{A:Option Addr}{xs:List Value}{b o k:Nat}{u:Value}
def rd_some{z:Nat}(h:Rd w z s A n xs)(hn:0<n):∃b o,A=some ⟨b,o,none⟩:=by
 obtain⟨b,o,e,_⟩:=h.2 hn;exact⟨b,o,e⟩
def yH(h:Ro L s A n xs)(S:St B w0 w fs)(I:∀f∈L,f∈fs)(hn:0<n):∃b o,A=some ⟨b,o,none⟩:=rd_some (h.rd S I) hn
def Ju{z:Nat}(h:Rd w z s A n xs)(M:A=some ⟨b,o,none⟩)(I:xs[k]? =some u):w.cell? ⟨b,o+k,none⟩=some u:=by
 have hn:0<n:=by
  rcases eq_zero_or_pos n with J|J
  ·have:=h.1;rw[J,Nat.zero_mul]at this;rw[length_eq_zero_iff.1 this]at I;simp at I
  exact J
 obtain⟨b',Z,e,_,O⟩:=h.2 hn;rw[M]at e
 cases e;exact O k u I
def iy(h:Ro L s A n xs)(I:A=some ⟨b,o,none⟩)(S:St B w0 w fs)(J:∀f∈L,f∈fs)(M:xs[k]? =some u):w.cell? ⟨b,o+k,none⟩=some u:=Ju (h.rd S J) I M
end
section
variable {m mm:Cl}{n q F0:Nat}{e:Ev}{a:iW}{u:Int}{b:aU}
def Pn(h:mm={m with aP:=mm.aP,MG:=mm.MG}):mm.QL n q e a u={m with aP:=(mm.QL n q e a u).aP,MG:=(mm.QL n q e a u).MG}:=by
 have h1:=congrArg Cl.ah h;have I:=congrArg Cl.off h;have J:=congrArg Cl.Ms h;have M:=congrArg Cl.bL h;have O:=congrArg Cl.calls h;unfold Cl.QL;simp only[Cl.mk.injEq];exact⟨h1,I,J,trivial,trivial,M,O⟩
def VE(I:(m.ah n).bs q=b)(h:¬(m.MG n q).1=b.ep):m.recover n q={m with aP:=m.aP++[⟨n,q,b.ep,aF,eU,-1⟩],MG:=iD m.MG n q (b.ep,(b.Gs.length:Int))}:=by
 subst I;unfold Cl.recover;rw[if_pos h];rfl
def VF(I:(m.ah n).bs q=b)(h:(m.MG n q).1=b.ep)(J:(m.MG n q).2=(F0:Int)):m.recover n q=m.recovered n q b.Gs (av b.Gs).2.1 ((range b.Gs.length).drop F0):=by
 subst I;unfold Cl.recover;rw[if_neg (λe=>e h),J,Int.toNat_natCast]
end
def aaB{K:CK}{B n kn kw:Nat}{w0 w:World}{fs:List J8}{m:Cl}{H:List LX}{q:Nat}(hn:n<5)(hkn:K.nb n=kn)(iH:K.wb=kw)(hu:Uk B w0)(hB1:m.Ms.length<=1000000000)(hB2:m.aP.length<=1000000000000)(hq:q<4)(HW:Wd K B w0 w fs m H)(hv:∀q,q<4->au ((m.ah n).bs q)=0)(hsh:0<=(m.MG n q).2):
 Calls tP 55 #[pV kw 0,pV kn 0,D ((q:Nat):Int)] w (λe w'=>e=.returned (.tuple #[])/\Wd K B w0 w' fs (m.recover n q) H):=by
 obtain⟨R,G,S0⟩:=HW.open hn;have hfl:R.fx.length=m.Ms.length:=by rw[<-G.Ms,length_map]
 have NG:=G.iK n hn;obtain⟨X,hX⟩:∃X,m.ah n=X:=⟨_,E⟩;obtain⟨z,hz⟩:∃z,R.nx n=z:=⟨_,E⟩;rw[hX,hz]at S0 NG;have hL:∀f∈R.L,f∈gG K R m fs n:=λf h=>mem_append_right _ (mem_append_right _ h);obtain⟨rr,hrr⟩:∃r,gG K R m fs n=r:=⟨_,E⟩;rw[hrr]at S0 hL;have S:St B w0 w (cN kn n X z z.pv (cF kw R m rr)):=by subst hkn;subst iH;exact S0
 clear S0 HW;have hlen:=(S.own 1 E).1;rw[iL (sz:=6) (λ_=>E)]at hlen;rw[hX]at hv;obtain⟨y,hy,hyb,qE⟩:=NG.at_ hq;have hln:=kH (jD (hyb▸hv _ hq));have zi:y.b.Gs.length*48<=reachBytes:=by unfold reachBytes;omega
 have Mx:=xH (hyb▸hv _ hq);obtain⟨F0,hF0⟩:∃F0:Nat,(m.MG n q).2=(F0:Int):=⟨_,(Int.toNat_of_nonneg hsh).symm⟩;have hle:y.b.Gs.length<=1152921504606846976:=Y;have hal:(av y.b.Gs).2.1.length=y.b.Gs.length:=OL (jD (hyb▸hv _ hq));refine gP 68 func55 ?_;refine cw [0,1,2] ?_;refine zN 7 ?_;refine vv (ko q) ?_;refine vv (aj E E (dP (cs:=BX.cells y) (Rd.wZ (St.Rn 1 S E) (λ_ _ h=>bE (enc:=BX.cells) (sz:=6) (λ_=>E) hy h)))) ?_;refine gD S fZ ?_;intro b1 w2 S3;refine sa 0 S3 kQ ?_;intro w4 S5;refine zN 3 ?_;have S6:=S5.drew;refine fM 13 12 S6 [] ?_;iterate 8 refine gW ?_
 refine gk (v:=pV kw (10+n*8)) 8 E S6 (λ_ _=>(aM E E E (fU n underlying95 kQ E hn))) ?_;refine gk (v:=pV kw (10+n*8+q*2)) 9 E S6 (λ_ _=>(aM E E E (fU q underlying94 kQ E hq))) ?_;refine gk (v:=.agg #[D ((m.MG n q).1),D ((m.MG n q).2)]) 10 E S6 (λ_ aDI=>(aj E E (dP (cs:=[D ((m.MG n q).1),D ((m.MG n q).2)]) (St.rg 4 aDI E (awK hn hq))))) ?_;refine fE (m:=1) (r:=11) kQ ?_;refine mW (i:=11) E E (V:=λb=>pV b 0) (row:= #[D 0,D 0]) (t:=93) S6 (wn E) E E (jd E (zeroValue93 _) E) ?_;intro b18 GH qj;refine gW ?_;refine fC kQ E E E ?_;refine sa 0 qj kQ ?_;intro FN jY;refine zQ ?_;refine jg ?_;refine zN 8 ?_;by_cases h23:(m.MG n q).1=y.b.ep
 ·refine zN 10 ?_;refine dJ eQ (abB y.A y.c y.b.Gs _ (qE.1.rd jY (M9 9 E hL)) hle) ?_;rintro _ M4 ⟨A24,c25,rfl,T28⟩;refine⟨_,E,?_⟩;have sS:=jY.ext T28 E;refine zN 10 ?_;refine vv (v:=D (F0:Int)) (Ct hF0 (aj E E (aG (St.cl 1 sS E E)))) ?_;refine zN 4 ?_;have tF:=sS.eH [9,9,9,9,9,9,9];refine fJ (X:=Cl×(Option Addr)×Nat×Nat) (λxv=>[(0,pV kw 0),(1,pV kn 0),(2,D ((q:Nat):Int)),(6,pV b1 0),(8,.slice A24 ((av y.b.Gs).2.1.length) c25),(10,D (xv.2.2.2:Int))]) (λxv wr=>(m.recovered n q y.b.Gs (av y.b.Gs).2.1 ((range y.b.Gs.length).drop F0)=xv.1.recovered n q y.b.Gs (av y.b.Gs).2.1 ((range y.b.Gs.length).drop xv.2.2.2))/\(xv.1={m with aP:=xv.1.aP,MG:=xv.1.MG})/\(xv.1.aP.length+(y.b.Gs.length-xv.2.2.2)<=1000000002001)/\St B w0 wr (cN kn n X z z.pv (wF kw (.slice R.nA 5 R.nc) m.off R.fA R.fx R.fc xv.1.MG xv.2.1 xv.1.aP xv.2.2.1 R.tA m.bL R.tc m.calls ((.cZ 4 A24 ((av y.b.Gs).2.1.length) (((av y.b.Gs).2.1).flatMap iW.cells))::(.Mg b18 #[D ((m.MG n q).1),D ((m.MG n q).2)] 93)::(.Mg b1 (bR y.b y.A y.c) 42)::rr)))) (λxv=>y.b.Gs.length-xv.2.2.2) (m,R.sA,R.sc,F0) ?_ ?_ ?_
  ·exact⟨E,E,uQ,tF⟩
  ·exact rU
  rintro⟨mm,A9,c9,I⟩ VX ⟨I6,M,Sw,oW⟩
  try dsimp only at I6 M Sw oW
  refine bI (l':=[(0,pV kw 0),(1,pV kn 0),(2,D ((q:Nat):Int)),(6,pV b1 0),(8,.slice A24 ((av y.b.Gs).2.1.length) c25),(10,D (I:Int))]) rU (aQ (aQ (aC (vm ?_))));refine zN 3 ?_;by_cases h35:(I:Int)< (y.b.Gs.length:Int)
  ·refine zN 8 ?_;obtain⟨e,he⟩:∃e,y.b.Gs[I]? =some e:=⟨_,getElem?_eq_getElem Y⟩;obtain⟨a,ha⟩:∃a,(av y.b.Gs).2.1[I]? =some a:=⟨_,getElem?_eq_getElem Y⟩;have hee:y.b.Gs.getD I aI=e:=by rw[getD_eq_getElem?_getD,he];rfl
   have haa:(av y.b.Gs).2.1.getD I eU=a:=by rw[getD_eq_getElem?_getD,ha];rfl
   obtain⟨rb,ro,hra⟩:=yH qE.1 oW (M9 10 E hL) Y;obtain⟨sb,so,hsa⟩:=rd_some (St.cZ 7 oW E) Y;have O:=oW.drew;refine aK 13 O [5,3] ?_;refine aL 6 ?_;refine ak (v:=pV rb (ro+I*6)) 6 E (O.qp [5,3]) (λ_ _=>(aM E E E (fq I hra underlying40 kQ Y Y))) ?_;refine aL 2 ?_;refine ak (v:=pV sb (so+I*4)) 10 E (O.qp [5,3]) (λ_ _=>(aM E E E (fq I hsa underlying160 kQ Y Y))) ?_;refine iG (n:=2) (r:=7) (s:=11) kQ ?_ ?_
   ·refine ji (i:=7) E E (v:=.agg #[D ((y.b.Gs.getD I aI).kind),D ((y.b.Gs.getD I aI).Mr),D ((y.b.Gs.getD I aI).id),D ((y.b.Gs.getD I aI).body),D ((y.b.Gs.getD I aI).MF),D ((y.b.Gs.getD I aI).Nc)]) (wn E) E E (aj E E (dP (cs:=Ev.cells (y.b.Gs.getD I aI)) (λj u hu=>by rw[Nat.add_assoc];rw[hee]at hu;exact iy qE.1 hra O (M9 10 E hL) (bE (enc:=Ev.cells) (sz:=6) (k:=I) (λ_=>E) he hu)))) ?_;refine dG ?_;refine bg 11 ?_;refine ji (i:=11) E E (v:=.agg #[D (((av y.b.Gs).2.1.getD I eU).code),D (((av y.b.Gs).2.1.getD I eU).fO),D (((av y.b.Gs).2.1.getD I eU).Nc),D (((av y.b.Gs).2.1.getD I eU).body)]) (wn E) E E (aj E E (dP (cs:=iW.cells ((av y.b.Gs).2.1.getD I eU)) (λj u hu=>by rw[Nat.add_assoc];rw[haa]at hu;exact Ju (St.cZ 7 O E) hsa (bE (enc:=iW.cells) (sz:=4) (k:=I) (λ_=>E) ha hu)))) ?_;refine dG ?_;refine bg 12 ?_;refine kE 12 E eQ (nR hn hq hy (y.b.Gs.getD I aI) ((av y.b.Gs).2.1.getD I eU) (-1) O (by have:=Sw;omega)) ?_;rintro _ w51 ⟨rfl,M6,c48,aoA,aiw,pG⟩;refine⟨_,E,?_⟩;refine aL 2 ?_;refine zN 4 ?_;refine vv (v:=D ((I+1:Nat):Int)) iI ?_;refine zN 2 ?_;obtain⟨Z,J⟩:∃k,k=mm.QL n q (y.b.Gs.getD I aI) ((av y.b.Gs).2.1.getD I eU) (-1):=⟨_,E⟩;have hmb:(mm.ah n).bs q=y.b:=by rw[congrArg Cl.ah M,hX];exact hyb.symm
    have t1:Z.aP=aoA:=by rw[aiw,J];show mm.aP++[_]=_;rw[hmb]
    have t2:Z.MG=iD mm.MG n q (y.b.ep,(y.b.Gs.length:Int)):=by rw[J];show iD _ _ _ _=_;rw[hmb]
    have t3:Z.aP.length=mm.aP.length+1:=by rw[t1,aiw,length_append];rfl
    rw[<-t1,<-t2]at pG;refine bC (Z,M6,c48,I+1) ?_ rU (by first|omega|(dsimp only;omega));exact⟨(by dsimp only;rw[I6,nN Y,Cl.recovered,<-J]),(by dsimp only;rw[J];exact Pn M),uQ,pG⟩
   refine ji (i:=11) E E (v:=.agg #[D (((av y.b.Gs).2.1.getD I eU).code),D (((av y.b.Gs).2.1.getD I eU).fO),D (((av y.b.Gs).2.1.getD I eU).Nc),D (((av y.b.Gs).2.1.getD I eU).body)]) (wn E) E E (aj E E (dP (cs:=iW.cells ((av y.b.Gs).2.1.getD I eU)) (λj u hu=>by rw[Nat.add_assoc];rw[haa]at hu;exact Ju (St.cZ 7 O E) hsa (bE (enc:=iW.cells) (sz:=4) (k:=I) (λ_=>E) ha hu)))) ?_;refine dG ?_;refine bg 7 ?_;refine ji (i:=7) E E (v:=.agg #[D ((y.b.Gs.getD I aI).kind),D ((y.b.Gs.getD I aI).Mr),D ((y.b.Gs.getD I aI).id),D ((y.b.Gs.getD I aI).body),D ((y.b.Gs.getD I aI).MF),D ((y.b.Gs.getD I aI).Nc)]) (wn E) E E (aj E E (dP (cs:=Ev.cells (y.b.Gs.getD I aI)) (λj u hu=>by rw[Nat.add_assoc];rw[hee]at hu;exact iy qE.1 hra O (M9 10 E hL) (bE (enc:=Ev.cells) (sz:=6) (k:=I) (λ_=>E) he hu)))) ?_;refine dG ?_;refine bg 12 ?_;refine kE 12 E eQ (nR hn hq hy (y.b.Gs.getD I aI) ((av y.b.Gs).2.1.getD I eU) (-1) O (by have:=Sw;omega)) ?_;rintro _ w57 ⟨rfl,A53,c54,aDJ,avh,DL⟩;refine⟨_,E,?_⟩;refine aL 2 ?_;refine zN 4 ?_;refine vv (v:=D ((I+1:Nat):Int)) iI ?_;refine zN 2 ?_;obtain⟨Z,J⟩:∃k,k=mm.QL n q (y.b.Gs.getD I aI) ((av y.b.Gs).2.1.getD I eU) (-1):=⟨_,E⟩;have hmb:(mm.ah n).bs q=y.b:=by rw[congrArg Cl.ah M,hX];exact hyb.symm
   have t1:Z.aP=aDJ:=by rw[avh,J];show mm.aP++[_]=_;rw[hmb]
   have t2:Z.MG=iD mm.MG n q (y.b.ep,(y.b.Gs.length:Int)):=by rw[J];show iD _ _ _ _=_;rw[hmb]
   have t3:Z.aP.length=mm.aP.length+1:=by rw[t1,avh,length_append];rfl
   rw[<-t1,<-t2]at DL;refine bC (Z,A53,c54,I+1) ?_ rU (by first|omega|(dsimp only;omega));exact⟨(by dsimp only;rw[I6,nN Y,Cl.recovered,<-J]),(by dsimp only;rw[J];exact Pn M),uQ,DL⟩
  refine zN 9 ?_;have zu:m.recover n q={m with aP:=mm.aP,MG:=mm.MG}:=by rw[VF (b:=y.b) (by rw[hX];exact hyb.symm) (by first|assumption|omega) hF0,I6,drop_eq_nil_of_le (by rw[length_range];omega),Cl.recovered];exact M
  rw[zu];exact⟨E,Wd.dR (X':=X) (z':=z) (Ls:=[.cZ 4 A24 ((av y.b.Gs).2.1.length) (((av y.b.Gs).2.1).flatMap iW.cells),.Mg b18 #[D ((m.MG n q).1),D ((m.MG n q).2)] 93,.Mg b1 (bR y.b y.A y.c) 42]) (fA:=R.fA) (fc:=R.fc) (fx:=R.fx) (sA:=A9) (sc:=c9) (tA:=R.tA) (tc:=R.tc) hkn iH hrr G hn oW NG.more (λu hu=>.inl hu) (aB hX).symm G.Ms.symm mI⟩
 refine zN 9 ?_;refine vv (v:=.agg #[D 4,D 0,D 0,D 0,D 0,D 0]) gH ?_;refine zQ ?_;have Ca:=jY.eH [8,8,8,8,8,8,8];refine dJ eQ (nR hn hq hy aF eU (-1) Ca Y) ?_;rintro _ w64 ⟨rfl,A60,c61,aLz,aDK,GQ⟩;refine⟨_,E,?_⟩;refine zQ ?_;refine bX (l':=[]) trivial (iw (oH (iB (dW (rs:=[]) (vs:=[]) E trivial ?_))));subst aDK;have zu:m.recover n q={m with aP:=m.aP++[⟨n,q,y.b.ep,aF,eU,-1⟩],MG:=iD m.MG n q (y.b.ep,(y.b.Gs.length:Int))}:=VE (b:=y.b) (by rw[hX];exact hyb.symm) ‹_›;rw[zu];exact⟨E,Wd.dR (X':=X) (z':=z) (Ls:=[.Mg b18 #[D ((m.MG n q).1),D ((m.MG n q).2)] 93,.Mg b1 (bR y.b y.A y.c) 42]) (fA:=R.fA) (fc:=R.fc) (fx:=R.fx) (sA:=A60) (sc:=c61) (tA:=R.tA) (tc:=R.tc) hkn iH hrr G hn GQ NG.more (λu hu=>.inl hu) (aB hX).symm G.Ms.symm mI⟩
section
variable {K:CK}{L L':List J8}{m:Cl}{n q c:Nat}{X:Nd}{z:NX}{v:Value}{FD:QK×Int}{BR:aU×Int}{A:Option Addr}{dz:BX}{d:List UInt8}
def dX.pv_(h:dX K L n X z)(hv:z.pv=v):dX K L n X {z with pv:=v}:=by
 subst hv;exact h
def dX.axp(h:dX K L n X z)(M:X.Mw=none)(O:q<4)(I:∀f∈L,f∈L')(Z: .cZ 1 A d.length (Gt d)∈L')(hY:Cn L' dz):
 dX K L' n {X with data:=d,MC:=(d.length:Int),bs:=Na X.bs q dz.b} {z with tA:=A,tc:=c,pv:=.nilFunc,bx:=z.bx.set q dz}:=
 ⟨Jk h.Ry O,Ez (λu J=>(h.TF u J).mono I) hY,Ro.cZ Z,h.ixm,λu J=>(h.ixo u J).mono I,by show qc _ _ _ X.Mw _;rw[M];rfl⟩
def adu(h:(m.ah n).up=false):m.make n q=m:=by unfold Cl.make;rw[if_pos (.inl h)]
def adv(h:(m.ah n).Mw.isSome=true):m.make n q=m:=by unfold Cl.make;rw[if_pos (.inr (.inl h))]
def ahs(I:r9 m.off q n=FD)(h:¬FD.2=0):m.make n q=m:=by unfold Cl.make;rw[if_pos (.inr (.inr (by rw[I];exact h)))]
def aht(I:iX ((m.ah n).bs q) 1=BR)(h:¬BR.2=0):m.make n q=m:=by
 unfold Cl.make
 split
 ·rfl
 rw[I,if_pos h]
def adw(h:m.ah n=X)(I:iX (X.bs q) 1=BR)(hw:fD X.data X.MC [fH 1 q BR.1.ep 0 aI]=none):m.make n q=m:=by
 subst h;subst I;unfold Cl.make Nd.write
 split
 ·rfl
 split
 ·rfl
 rw[hw];rfl
def ahu(h:m.ah n=X)(I:X.up=true)(J:X.Mw=none)(M:r9 m.off q n=FD)(O:FD.2=0)(Z:iX (X.bs q) 1=BR)(hb:BR.2=0)(hw:fD X.data X.MC [fH 1 q BR.1.ep 0 aI]=some d):
 m.make n q={m.put n {X with data:=d,MC:=(d.length:Int),bs:=Na X.bs q BR.1}with off:=FD.1,MG:=iD m.MG n q (1,0)}:=by
 subst h;subst Z;subst M;unfold Cl.make Nd.write;rw[I,J,if_neg (by simp[O]),if_neg (λe=>e hb),hw];rfl
end
def Y4{K:CK}{B n kn kw:Nat}{w0 w:World}{fs:List J8}{m:Cl}{H:List LX}{q:Nat}(hn:n<5)(hkn:K.nb n=kn)(iH:K.wb=kw)(hu:Uk B w0)(hB1:m.Ms.length<=1000000000)(hB2:m.aP.length<=1000000000000)(hq:q<4)(HW:Wd K B w0 w fs m H)(hv:∀q,q<4->au ((m.ah n).bs q)=0)(hmay:∀rs d,fD (m.ah n).data (m.ah n).MC rs=some d->dx d (m.ah n).MC=true):
 Calls tP 31 #[pV kw 0,pV kn 0,D ((q:Nat):Int)] w (λe w'=>e=.returned (.tuple #[])/\Wd K B w0 w' fs (m.make n q) H):=by
 obtain⟨R,G,S0⟩:=HW.open hn;have hfl:R.fx.length=m.Ms.length:=by rw[<-G.Ms,length_map]
 have NG:=G.iK n hn;obtain⟨X,hX⟩:∃X,m.ah n=X:=⟨_,E⟩;obtain⟨z,hz⟩:∃z,R.nx n=z:=⟨_,E⟩;rw[hX,hz]at S0 NG;have hL:∀f∈R.L,f∈gG K R m fs n:=λf h=>mem_append_right _ (mem_append_right _ h);obtain⟨rr,hrr⟩:∃r,gG K R m fs n=r:=⟨_,E⟩;rw[hrr]at S0 hL;obtain⟨pv0,M⟩:∃v,z.pv=v:=⟨_,E⟩;have S:St B w0 w (cN kn n X z pv0 (cF kw R m rr)):=by rw[<-M];subst hkn;subst iH;exact S0
 clear S0 HW;have hlen:=(S.own 1 E).1;rw[iL (sz:=6) (λ_=>E)]at hlen;rw[hX]at hv;obtain⟨y,hy,hyb,qE⟩:=NG.at_ hq;have hln:=kH (jD (hyb▸hv _ hq));have zi:y.b.Gs.length*48<=reachBytes:=by unfold reachBytes;omega
 have Mx:=xH (hyb▸hv _ hq);refine gP 93 func31 ?_;refine bI (l':=[(0,pV kw 0),(1,pV kn 0),(2,D ((q:Nat):Int))]) FH ?_;obtain⟨FD,J5⟩:∃r,r9 m.off q n=r:=⟨_,E⟩;have HF:=λw h=>Vw m.off q n w h;rw[J5]at HF;refine nD (X:=Nat) (λxv=>[(0,pV kw 0),(1,pV kn 0),(2,D ((q:Nat):Int)),(6,pV xv 0),(7,D FD.2)]) (λxv wr=>St B w0 wr ((.Mg xv (((FD.1).cells).toArray) 30)::(cN kn n X z pv0 (cF kw R m rr)))) ?_ ?_
 ·have S1:=S.drew;refine IQ (C:=λw'=>St B w0 w' (cN kn n X z pv0 (cF kw R m rr))) (n:=16) (listed:= #[false,false,false,false,false,false,false,false,false,false,false,false,false,false,false,false]) mixed E E ?_;refine aL 3 ?_;refine ak (v:=.agg ((m.off.cells).toArray)) 3 E S1 (λ_ Sx5=>(aj E E (dP (cs:=(m.off.cells)) (St.rg 3 Sx5 E (yg))))) ?_;refine aL 5 ?_;refine iG (n:=6) (r:=9) (s:=13) kQ ?_ ?_
  ·refine kE 9 E eQ (HF _ (Uk.nw hu S1)) ?_;rintro _ Ib ⟨rfl,aDL⟩;refine⟨_,E,?_⟩;have pF:=S1.on aDL;refine aL 4 ?_;refine bg 13 ?_;refine lW 13 E pF ah6 ?_;intro b17 M0 uM;refine dG ?_;refine bg 14 ?_;refine snA 14 E 0 uM kQ ?_ (h1:=vU _);intro ZN vC;refine aL 3 ?_;refine dM b17 ?_ Av;exact vC
  refine lW 13 E S1 ah6 ?_;intro AJ Oc lH;refine dG ?_;refine bg 9 ?_;refine kE 9 E eQ (HF _ (Uk.nw hu lH)) ?_;rintro _ M4 ⟨rfl,aiv⟩;refine⟨_,E,?_⟩;have sS:=lH.on aiv;refine aL 4 ?_;refine bg 14 ?_;refine snA 14 E 0 sS kQ ?_ (h1:=vU _);intro w32 vR;refine aL 3 ?_;refine dM AJ ?_ Av;exact vR
 rintro b35 w36 O
 try dsimp only at O
 refine bI (l':=[(0,pV kw 0),(1,pV kn 0),(2,D ((q:Nat):Int)),(6,pV b35 0),(7,D FD.2)]) Av (aQ (aQ ?_));have hpn:=NG.lu;change qc (K.nb n) K.wb _ _ _ at hpn;rw[hkn,iH,M]at hpn
 rcases hup:X.up with _|_
 ·refine zN 4 ?_;refine vv (v:=.bool false) (O6 hup (aj E E (aG (St.cl 1 O E E)))) ?_;refine zN 18 ?_;have Az:=O.eH [7,7,7,7,7,7,7];have zu:m.make n q=m:=adu (by rw[hX];exact hup);rw[zu];exact⟨E,Wd.dR (X':=X) (z':={z with pv:=pv0}) (Ls:=[.Mg b35 (((FD.1).cells).toArray) 30]) (fA:=R.fA) (fc:=R.fc) (fx:=R.fx) (sA:=R.sA) (sc:=R.sc) (tA:=R.tA) (tc:=R.tc) hkn iH hrr G hn Az (NG.more.pv_ M) (λu hu=>.inl hu) (aB hX).symm G.Ms.symm mI⟩
 rcases hp:X.Mw with _|p
 ·rw[hp]at hpn;have hpf:pv0=.nilFunc:=hpn;subst hpf;by_cases hF:FD.2=0
  ·refine zN 4 ?_;refine vv (v:=.bool true) (O6 hup (aj E E (aG (St.cl 1 O E E)))) ?_;refine zN 6 ?_;refine vg (v:=.bool false) (bM E E E KC) ?_;refine zN 11 ?_;obtain⟨BR,qF⟩:∃r,iX y.b 1=r:=⟨_,E⟩;have HP:=λw h=>Li y.b.Gq y.b.ep y.b.fr y.b.tg y.b.rd y.A y.c y.b.Gs 1 w h zi;rw[show iX ⟨y.b.Gq,y.b.ep,y.b.fr,y.b.tg,y.b.rd,y.b.Gs⟩ 1=BR from qF]at HP;refine zN 6 ?_;refine vv (ko q) ?_;refine vv (aj E E (dP (cs:=BX.cells y) (Rd.wZ (St.Rn 2 O E) (λ_ _ h=>bE (enc:=BX.cells) (sz:=6) (λ_=>E) hy h)))) ?_;refine dJ eQ (HP _ (qE.1.rd O (M9 8 E hL))) ?_;rintro _ SX ⟨I,Z,axq,rfl,T44⟩;refine⟨_,E,?_⟩;have rW:=O.ext T44 E;refine zN 3 ?_;refine gD rW fZ ?_;intro b45 ZR zx;refine sa 0 zx kQ ?_;intro ZP xX;refine zN 5 ?_;have wu:=xX.eH [9,9,9,9,9,9,9];by_cases hB:BR.2=0
   ·rcases adx:fD X.data X.MC [fH 1 q BR.1.ep 0 aI]with _|J
    ·refine zN 7 ?_;refine yO eQ (jl 1 q ⟨BR.1,I,Z⟩ _) ?_;rintro _ w53 ⟨rfl,aoI⟩;refine⟨_,E,?_⟩;have uO:=wu.on aoI;refine mV (V:=λb=>.slice (aD b 0) 1 1) (row:= #[D 1,D ((q:Nat):Int),D BR.1.ep,D 0,D 0,D 0,D 0,D 0,D 0,D 0]) (t:=138) uO (wg E E E E) E E (aV (vs:=[(0,.agg #[D 1,D ((q:Nat):Int),D BR.1.ep,D 0,D 0,D 0,D 0,D 0,D 0,D 0])]) E xR kQ) ?_;intro b56 w57 DL;have Ca:=DL.eH [7,7,7,7,7,7,7];refine yO eQ (F3 (rs:=[fH 1 q BR.1.ep 0 aI]) adx (Ro.Mg (mem_iff_getElem?.2 ⟨0,E⟩) E E) NG.yh (by exact M9 4 E hL) (le_of_ble_eq_true E) Ca) ?_;rintro _ w64 ⟨rfl,GQ⟩;refine⟨_,E,?_⟩;refine zN 8 ?_;have zu:m.make n q=m:=adw hX (by rw[<-hyb];exact qF) adx;rw[zu];exact⟨E,Wd.dR (X':=X) (z':={z with pv:=.nilFunc}) (Ls:=[.Mg b56 #[D 1,D ((q:Nat):Int),D BR.1.ep,D 0,D 0,D 0,D 0,D 0,D 0,D 0] 138,.Mg b45 (bR BR.1 I Z) 42,.cZ 6 I BR.1.Gs.length ((BR.1.Gs).flatMap Ev.cells),.Mg b35 (((FD.1).cells).toArray) 30]) (fA:=R.fA) (fc:=R.fc) (fx:=R.fx) (sA:=R.sA) (sc:=R.sc) (tA:=R.tA) (tc:=R.tc) hkn iH hrr G hn GQ (NG.more.pv_ M) (λu hu=>.inl hu) (aB hX).symm G.Ms.symm mI⟩
    refine zN 7 ?_;refine yO eQ (jl 1 q ⟨BR.1,I,Z⟩ _) ?_;rintro _ VZ ⟨rfl,aDM⟩;refine⟨_,E,?_⟩;have uL:=wu.on aDM;refine mV (V:=λb=>.slice (aD b 0) 1 1) (row:= #[D 1,D ((q:Nat):Int),D BR.1.ep,D 0,D 0,D 0,D 0,D 0,D 0,D 0]) (t:=138) uL (wg E E E E) E E (aV (vs:=[(0,.agg #[D 1,D ((q:Nat):Int),D BR.1.ep,D 0,D 0,D 0,D 0,D 0,D 0,D 0])]) E xR kQ) ?_;intro b69 w70 rX;have FP:=rX.eH [7,7,7,7,7,7,7];refine yO eQ (F4 (rs:=[fH 1 q BR.1.ep 0 aI]) adx (Ro.Mg (mem_iff_getElem?.2 ⟨0,E⟩) E E) NG.yh (by exact M9 4 E hL) (le_of_ble_eq_true E) FP) ?_;rintro _ w77 ⟨A73,c74,N75,rfl,axr,JU⟩;refine⟨_,E,?_⟩;refine zN 13 ?_;refine vv (aj E E (dP (cs:=[.slice A73 J.length c74,D X.MC]) (St.rg 0 JU E (sj)))) ?_;rw[hX]at hmay;have Gi:=λw h=>BD (pJ A73 J.length c74 J X.MC w h);rw[yG (hmay _ _ adx)]at Gi;refine dJ eQ (Gi _ (axr.rd JU (M9 11 E (Xl hL)))) ?_;rintro _ w81 ⟨A79,c80,rfl,T83⟩;refine⟨_,E,?_⟩;have S82:=JU.ext T83 E;refine zN 5 ?_;refine jH (row':=dN n X.up (.slice A79 J.length c80) (J.length:Int) (.slice (aD z.bb 0) 4 4) X.Nh X.Nf (.slice z.iA z.ix.length z.ic) (.nilFunc) X.turn) 1 S82 kQ ?_;intro w84 JW;refine zN 3 ?_;have Cg:=JW.drew;refine fM 8 6 Cg [] ?_;iterate 6 refine gW ?_
    refine fC kQ E E E ?_;refine vv (ko q) ?_;refine l9 (xs':=(z.bx.set q (⟨BR.1,I,Z⟩:BX)).flatMap BX.cells) 2 Cg (wn E) E E E E E E xB E (bY E) (by omega) (by rw[Nat.zero_add];exact qK (enc:=BX.cells) (sz:=6) (λ_=>E) (⟨BR.1,I,Z⟩:BX) _ _ (by omega)) ?_;intro w93 Ic;have hy95:(z.bx.set q (⟨BR.1,I,Z⟩:BX))[q]? =some (⟨BR.1,I,Z⟩:BX):=getElem?_set_self Y;refine zQ ?_;refine jg ?_;refine zN 7 ?_;refine jH 4 Ic kQ ?_ (h1:=vU _) (hs:=by exact aoy);intro w96 DJ;refine zN 2 ?_;have DT:=DJ.drew;refine aK 12 DT [4] ?_;refine aL 6 ?_;refine ak (v:=.agg #[D 1,D 0]) 6 E (St.del 4 DT) (λ_ _=>gH) ?_;refine aL 2 ?_;refine ak (v:=pV kw (10+n*8)) 9 E (St.del 4 DT) (λ_ _=>(aM E E E (fU n underlying95 kQ E hn))) ?_;refine ak (v:=pV kw (10+n*8+q*2)) 10 E (St.del 4 DT) (λ_ _=>(aM E E E (fU q underlying94 kQ E hq))) ?_;refine bg 11 ?_;refine uH (i:=11) E E (cs:= #[D 1,D 0]) (row':=lJ (.slice R.nA 5 R.nc) (FD.1) (.slice R.fA R.fx.length R.fc) (iD m.MG n q (1,0)) (.slice R.sA m.aP.length R.sc) (.slice R.tA m.bL.length R.tc) m.calls) (fs':=(_::_::_::_::(bW kw (.slice R.nA 5 R.nc) FD.1 R.fA R.fx R.fc (iD m.MG n q (1,0)) R.sA m.aP R.sc R.tA m.bL R.tc m.calls)::_::_::_::_::_::_::_::(rr++N75))) 4 DT (wn E) E E E E E E VR E (bY E) (by rw[afc];omega) (am2 hn hq (a:=1) (b:=0)) E ?_;intro aAx abD;refine aL 2 ?_;refine bX (l':=[]) trivial (oV ?_);have Ch:=abD.eH [7,7,7,7,7,7,7];rw[ahu hX hup hp J5 hF (by rw[<-hyb];exact qF) hB adx];exact⟨E,Wd.fin (X':={X with data:=J,MC:=(J.length:Int),bs:=Na X.bs q BR.1}) (z':={z with tA:=A79,tc:=c80,pv:=.nilFunc,bx:=z.bx.set q (⟨BR.1,I,Z⟩:BX)}) (N:=N75) (Ls:=[.cZ 1 A79 J.length (Gt J),.Mg b69 #[D 1,D ((q:Nat):Int),D BR.1.ep,D 0,D 0,D 0,D 0,D 0,D 0,D 0] 138,.Mg b45 (bR BR.1 I Z) 42,.cZ 6 I BR.1.Gs.length ((BR.1.Gs).flatMap Ev.cells),.Mg b35 (((FD.1).cells).toArray) 30]) (fA:=R.fA) (fc:=R.fc) (fx:=R.fx) (sA:=R.sA) (sc:=R.sc) (tA:=R.tA) (tc:=R.tc) hkn iH hrr G hn Ch (dX.axp (dz:=(⟨BR.1,I,Z⟩:BX)) NG hp hq (λf hf=>mem_append_left _ hf) (sw (mem_iff_getElem?.2 ⟨0,E⟩)) ⟨Ro.cZ (sw (mem_iff_getElem?.2 ⟨3,E⟩)),axq⟩) (λu hu=>.inl hu) E G.Ms.symm mI⟩
   refine zN 18 ?_;have zu:m.make n q=m:=aht (by rw[hX,<-hyb];exact qF) hB;rw[zu];exact⟨E,Wd.dR (X':=X) (z':={z with pv:=.nilFunc}) (Ls:=[.Mg b45 (bR BR.1 I Z) 42,.cZ 6 I BR.1.Gs.length ((BR.1.Gs).flatMap Ev.cells),.Mg b35 (((FD.1).cells).toArray) 30]) (fA:=R.fA) (fc:=R.fc) (fx:=R.fx) (sA:=R.sA) (sc:=R.sc) (tA:=R.tA) (tc:=R.tc) hkn iH hrr G hn wu (NG.more.pv_ M) (λu hu=>.inl hu) (aB hX).symm G.Ms.symm mI⟩
  refine zN 4 ?_;refine vv (v:=.bool true) (O6 hup (aj E E (aG (St.cl 1 O E E)))) ?_;refine zN 6 ?_;refine vg (v:=.bool false) (bM E E E KC) ?_;refine zN 11 ?_;have vM:=O.eH [7,7,7,7,7,7,7];have zu:m.make n q=m:=ahs J5 hF;rw[zu];exact⟨E,Wd.dR (X':=X) (z':={z with pv:=.nilFunc}) (Ls:=[.Mg b35 (((FD.1).cells).toArray) 30]) (fA:=R.fA) (fc:=R.fc) (fx:=R.fx) (sA:=R.sA) (sc:=R.sc) (tA:=R.tA) (tc:=R.tc) hkn iH hrr G hn vM (NG.more.pv_ M) (λu hu=>.inl hu) (aB hX).symm G.Ms.symm mI⟩
 rw[hp]at hpn;obtain⟨f2,xs2,ys2,hpf⟩:=KN hpn;subst hpf;refine zN 4 ?_;refine vv (v:=.bool true) (O6 hup (aj E E (aG (St.cl 1 O E E)))) ?_;refine zN 6 ?_;refine vg (v:=.bool true) (bM E E E xI) ?_;refine zN 11 ?_;have ER:=O.eH [7,7,7,7,7,7,7];have zu:m.make n q=m:=adv (by rw[hX,hp];rfl);rw[zu];exact⟨E,Wd.dR (X':=X) (z':={z with pv:=.func f2 xs2 ys2}) (Ls:=[.Mg b35 (((FD.1).cells).toArray) 30]) (fA:=R.fA) (fc:=R.fc) (fx:=R.fx) (sA:=R.sA) (sc:=R.sc) (tA:=R.tA) (tc:=R.tc) hkn iH hrr G hn ER (NG.more.pv_ M) (λu hu=>.inl hu) (aB hX).symm G.Ms.symm mI⟩
section
variable {K:CK}{L:List J8}{m:Cl}{n q:Nat}{tg:Int}{X:Nd}{z:NX}{PW:Pl×Int}{BR:aU×Int}{dz:BX}
def dX.anq(h:dX K L n X z)(I:q<4)(J:Cn L dz):dX K L n (X.ay q dz.b) {z with bx:=z.bx.set q dz}:=⟨Jk h.Ry I,Ez h.TF J,h.yh,h.ixm,h.ixo,h.lu⟩
def WE(I:aJ m.off q=PW)(h:¬PW.2=0\/PW.1.node=tg\/(m.ah PW.1.node.toNat).up=false):m.move q tg=m:=by
 subst I;unfold Cl.move;rw[if_pos h]
def afz(I:aJ m.off q=PW)(hn:PW.1.node=(n:Int))(J:m.ah n=X)(M:uK (X.bs q) tg=BR)(h:¬(BR.2=0/\BR.1.ep=PW.1.Mc)):m.move q tg=m:=by
 subst I;subst J;subst M;unfold Cl.move
 split
 ·rfl
 rw[hn,Int.toNat_natCast,if_neg h]
def ar0(I:aJ m.off q=PW)(h1:PW.2=0)(J:¬PW.1.node=tg)(hn:PW.1.node=(n:Int))(M:m.ah n=X)(O:X.up=true)(Z:uK (X.bs q) tg=BR)(h3:BR.2=0)(h4:BR.1.ep=PW.1.Mc):m.move q tg=m.put n (X.ay q BR.1):=by
 subst I;subst M;subst Z;unfold Cl.move;have e:(aJ m.off q).1.node.toNat=n:=by rw[hn,Int.toNat_natCast]
 rw[e,O,if_neg (by rintro(h|h|h);exact h h1;exact J h;cases h),if_pos ⟨h3,h4⟩];rfl
end
def Y5{K:CK}{B n kn kw:Nat}{w0 w:World}{fs:List J8}{m:Cl}{H:List LX}{q:Nat}{tg:Int}{PW:Pl×Int}(hn:n<5)(J:K.nb n=kn)(O:K.wb=kw)(hu:Uk B w0)(hB1:m.Ms.length<=1000000000)(hB2:m.aP.length<=1000000000000)(hq:q<4)(HW:Wd K B w0 w fs m H)(hv:∀q,q<4->au ((m.ah n).bs q)=0)(Z:aJ m.off q=PW)(hwn:PW.2=0->PW.1.node=(n:Int)):
 Calls prog 38 #[pV kw 0,D ((q:Nat):Int),D tg] w (λe w'=>e=.returned (.tuple #[])/\Wd K B w0 w' fs (m.move q tg) H):=by
 obtain⟨R,G,S0⟩:=HW.open hn;have hfl:R.fx.length=m.Ms.length:=by rw[<-G.Ms,length_map]
 have NG:=G.iK n hn;obtain⟨X,hX⟩:∃X,m.ah n=X:=⟨_,E⟩;obtain⟨z,hz⟩:∃z,R.nx n=z:=⟨_,E⟩;rw[hX,hz]at S0 NG;have hL:∀f∈R.L,f∈gG K R m fs n:=λf h=>mem_append_right _ (mem_append_right _ h);obtain⟨rr,hrr⟩:∃r,gG K R m fs n=r:=⟨_,E⟩;rw[hrr]at S0 hL;have S:St B w0 w ((bN kn n X.up z.tA X.data z.tc X.MC z.bb X.Nh X.Nf z.iA z.ix z.ic z.pv X.turn)::(oB z.bb z.bx)::(fL z.iA z.ix z.ic)::(bW kw (.slice R.nA 5 R.nc) m.off R.fA R.fx R.fc m.MG R.sA m.aP R.sc R.tA m.bL R.tc m.calls)::(oL R.fA R.fx R.fc)::(oS R.sA m.aP R.sc)::(oT R.tA m.bL R.tc)::rr):=by subst J;subst O;exact S0
 clear S0 HW;have hlen:=(S.own 1 E).1;rw[iL (sz:=6) (λ_=>E)]at hlen;rw[hX]at hv;obtain⟨y,hy,hyb,qE⟩:=NG.at_ hq;have hln:=kH (jD (hyb▸hv _ hq));have zi:y.b.Gs.length*48<=reachBytes:=by unfold reachBytes;omega
 have Mx:=xH (hyb▸hv _ hq);obtain⟨ab,ao,qP⟩:=Cr G.arr S (M9 7 E hL);have harr:=G.arr;rw[qP]at S harr;refine gP 78 func38 ?_;refine cw [0,1,2] ?_;refine zQ ?_;have HQ:=λw h=>nQ m.off q w h;rw[Z]at HQ;refine zN 4 ?_;refine vv (aj E E (dP (cs:=(m.off.cells)) (St.rg 3 S E (yg)))) ?_;refine zQ ?_;refine Rq eQ S (HQ _ (Uk.nw hu S)) ?_;intro w1 S2;refine zN 3 ?_;refine gD S2 Gy ?_;intro b4 w5 S6;refine sa 0 S6 kQ ?_;intro w7 S8;refine zN 5 ?_;by_cases hP:PW.2=0
 ·by_cases hT:PW.1.node=tg
  ·refine fu S8 mixed kQ ?_;refine zN 22 ?_;refine eP λGH qj=>?_;refine zN 5 ?_;have vC:=qj.aO [0];rw[<-qP]at vC;have I:m.move q tg=m:=WE Z (.inr (.inl hT));rw[I];exact⟨E,Wd.dR (X':=X) (z':=z) (Ls:=[]) (fA:=R.fA) (fc:=R.fc) (fx:=R.fx) (sA:=R.sA) (sc:=R.sc) (tA:=R.tA) (tc:=R.tc) J O hrr G hn vC NG.more (λu hu=>.inl hu) (aB hX).symm G.Ms.symm mI⟩
  have hpn:=hwn Y
  rcases hup:X.up with _|_
  ·refine fu S8 mixed kQ ?_;refine zN 12 ?_;refine ug (v:=.slice (aD ab ao) 5 R.nc) (λ_ aDN=>(aj E E (aG (St.cl 4 aDN E Aq)))) ?_;refine zQ ?_;refine ug (v:=D (n:Int)) (λ_ aDO=>(Ct hpn (aj E E (aG (St.cl 0 aDO E E))))) ?_;refine ug (λ_ _=>ko n) ?_;refine ug (v:=pV kn 0) (λ_ aoW=>(aj E E (aG (J▸vV harr hn aoW (M9 8 E hL))))) ?_;refine zN 2 ?_;refine ug (v:=.bool false) (λ_ ao1=>(O6 hup (aj E E (aG (St.cl 1 ao1 E E))))) ?_;refine zN 2 ?_;refine eP λN7 pQ=>?_;refine zN 5 ?_;have xk:=pQ.aO [0];rw[<-qP]at xk;have I:m.move q tg=m:=WE Z (.inr (.inr (by rw[hpn,Int.toNat_natCast,hX];exact hup)));rw[I];exact⟨E,Wd.dR (X':=X) (z':=z) (Ls:=[]) (fA:=R.fA) (fc:=R.fc) (fx:=R.fx) (sA:=R.sA) (sc:=R.sc) (tA:=R.tA) (tc:=R.tc) J O hrr G hn xk NG.more (λu hu=>.inl hu) (aB hX).symm G.Ms.symm mI⟩
  refine fu S8 mixed kQ ?_;refine zN 12 ?_;refine ug (v:=.slice (aD ab ao) 5 R.nc) (λ_ abo=>(aj E E (aG (St.cl 4 abo E Aq)))) ?_;refine zQ ?_;refine ug (v:=D (n:Int)) (λ_ aDP=>(Ct hpn (aj E E (aG (St.cl 0 aDP E E))))) ?_;refine ug (λ_ _=>ko n) ?_;refine ug (v:=pV kn 0) (λ_ aDQ=>(aj E E (aG (J▸vV harr hn aDQ (M9 8 E hL))))) ?_;refine zN 2 ?_;refine ug (v:=.bool true) (λ_ ao2=>(O6 hup (aj E E (aG (St.cl 1 ao2 E E))))) ?_;refine zN 2 ?_;refine eP λw69 yK=>?_;refine zN 5 ?_;refine fu yK mixed kQ ?_;refine zN 3 ?_;refine uv (v:=.slice (aD ab ao) 5 R.nc) (λ_ aoV=>(aj E E (aG (St.cl 4 aoV E Aq)))) ?_;refine zQ ?_;refine uv (v:=D (n:Int)) (λ_ acF=>(Ct hpn (aj E E (aG (St.cl 0 acF E E))))) ?_;refine uv (λ_ _=>ko n) ?_;refine uv (v:=pV kn 0) (λ_ aDR=>(aj E E (aG (J▸vV harr hn aDR (M9 8 E hL))))) ?_;refine zQ ?_;refine eP λw80 uo=>?_;refine zN 2 ?_;obtain⟨BR,qF⟩:∃r,uK y.b tg=r:=⟨_,E⟩;have HP:=λw h=>agq y.b.Gq y.b.ep y.b.fr y.b.tg y.b.rd y.A y.c y.b.Gs tg w h zi;rw[show uK ⟨y.b.Gq,y.b.ep,y.b.fr,y.b.tg,y.b.rd,y.b.Gs⟩ tg=BR from qF]at HP;refine zN 6 ?_;refine vv (ko q) ?_;refine vv (aj E E (dP (cs:=BX.cells y) (Rd.wZ (St.Rn 2 uo E) (λ_ _ h=>bE (enc:=BX.cells) (sz:=6) (λ_=>E) hy h)))) ?_;refine zQ ?_;refine dJ eQ (HP _ (qE.1.rd uo (M9 8 E hL))) ?_;rintro _ w85 ⟨M,c83,axt,rfl,T87⟩;refine⟨_,E,?_⟩;have Cg:=uo.ext T87 E;refine zN 3 ?_;refine gD Cg fZ ?_;intro b88 w89 S90;refine sa 0 S90 kQ ?_;intro w91 zw;refine zN 4 ?_;by_cases hB:BR.2=0
  ·by_cases hE:BR.1.ep=PW.1.Mc
   ·refine zN 13 ?_;have DF:=zw.drew;refine fM 8 6 DF [] ?_;iterate 6 refine gW ?_
    refine fC kQ E E E ?_;refine vv (ko q) ?_;refine l9 (xs':=(z.bx.set q (⟨BR.1,M,c83⟩:BX)).flatMap BX.cells) 4 DF (wn E) E E E E E E xB E (bY E) (by omega) (by rw[Nat.zero_add];exact qK (enc:=BX.cells) (sz:=6) (λ_=>E) (⟨BR.1,M,c83⟩:BX) _ _ (by omega)) ?_;intro aij wR;have hy102:(z.bx.set q (⟨BR.1,M,c83⟩:BX))[q]? =some (⟨BR.1,M,c83⟩:BX):=getElem?_set_self Y;refine zQ ?_;refine jg ?_;refine bX (l':=[]) trivial (oV ?_);have vN:=wR.aO [2,0];have yT:=vN.eH [7,7,7,7,7,7,7];rw[<-qP]at yT;have I:m.move q tg=m.put n (X.ay q BR.1):=ar0 Z hP hT hpn hX hup (by rw[<-hyb];exact qF) hB hE;rw[I];exact⟨E,Wd.dR (X':=(X.ay q BR.1)) (z':={z with bx:=z.bx.set q (⟨BR.1,M,c83⟩:BX)}) (Ls:=[.cZ 6 M BR.1.Gs.length ((BR.1.Gs).flatMap Ev.cells)]) (fA:=R.fA) (fc:=R.fc) (fx:=R.fx) (sA:=R.sA) (sc:=R.sc) (tA:=R.tA) (tc:=R.tc) J O hrr G hn yT (dX.anq (dz:=(⟨BR.1,M,c83⟩:BX)) NG.more hq ⟨Ro.cZ (mem_append_right _ (mem_iff_getElem?.2 ⟨0,E⟩)),axt⟩) (λu hu=>.inl hu) E G.Ms.symm mI⟩
   refine zN 15 ?_;have sO:=zw.aO [2,0];have Mt:=sO.eH [7,7,7,7,7,7,7];rw[<-qP]at Mt;have I:m.move q tg=m:=afz Z hpn hX (by rw[<-hyb];exact qF) (λe=>hE e.2);rw[I];exact⟨E,Wd.dR (X':=X) (z':=z) (Ls:=[.cZ 6 M BR.1.Gs.length ((BR.1.Gs).flatMap Ev.cells)]) (fA:=R.fA) (fc:=R.fc) (fx:=R.fx) (sA:=R.sA) (sc:=R.sc) (tA:=R.tA) (tc:=R.tc) J O hrr G hn Mt NG.more (λu hu=>.inl hu) (aB hX).symm G.Ms.symm mI⟩
  refine zN 15 ?_;have EX:=zw.aO [2,0];have vL:=EX.eH [7,7,7,7,7,7,7];rw[<-qP]at vL;have I:m.move q tg=m:=afz Z hpn hX (by rw[<-hyb];exact qF) (λe=>hB e.1);rw[I];exact⟨E,Wd.dR (X':=X) (z':=z) (Ls:=[.cZ 6 M BR.1.Gs.length ((BR.1.Gs).flatMap Ev.cells)]) (fA:=R.fA) (fc:=R.fc) (fx:=R.fx) (sA:=R.sA) (sc:=R.sc) (tA:=R.tA) (tc:=R.tc) J O hrr G hn vL NG.more (λu hu=>.inl hu) (aB hX).symm G.Ms.symm mI⟩
 refine fu S8 mixed kQ ?_;refine zN 22 ?_;refine eP λaoq wP=>?_;refine zN 5 ?_;have Ao:=wP.aO [0];rw[<-qP]at Ao;have I:m.move q tg=m:=WE Z (.inl hP);rw[I];exact⟨E,Wd.dR (X':=X) (z':=z) (Ls:=[]) (fA:=R.fA) (fc:=R.fc) (fx:=R.fx) (sA:=R.sA) (sc:=R.sc) (tA:=R.tA) (tc:=R.tc) J O hrr G hn Ao NG.more (λu hu=>.inl hu) (aB hX).symm G.Ms.symm mI⟩
def acA{B I n turn dc:Nat}{up:Bool}{J:Option Addr}{data:List UInt8}{MC:Int}{Hh:Nat->Pl}{Us:Nat->Bool}{bv iv pv:Value}{w0 w:World}{fs:List J8}{L:List J8}{rs:List cO}{RA:Option Addr}{rc:Nat}(hw:fD data MC rs=none)(M:Ro fs 10 RA rs.length (rs.flatMap cO.cells))(O:Ro L 1 J data.length (Gt data))(hL:∀f∈L,f∈fs)(Z:rs.length<=1000000)(S:St B w0 w ((.Mg I (dN n up (.slice J data.length dc) MC bv Hh Us iv pv turn) 105)::fs)):
 Calls tP 44 #[pV I 0,.slice RA rs.length rc] w (λe w'=>e=.returned (.bool false)/\St B w0 w' ((.Mg I (dN n up (.slice J data.length dc) MC bv Hh Us iv pv turn) 105)::fs)):=(F9 (rc:=rc) M O hL Z S).mono λe w' h=>h.elim (λh=>h.2) λ⟨_,_,_,_,h,_⟩=>by rw[hw]at h;cases h
def acB{B I n turn dc:Nat}{up:Bool}{Z:Option Addr}{data:List UInt8}{MC:Int}{Hh:Nat->Pl}{Us:Nat->Bool}{bv iv pv:Value}{w0 w:World}{fs:List J8}{L:List J8}{d':List UInt8}{rs:List cO}{RA:Option Addr}{rc:Nat}(hw:fD data MC rs=some d')(J:Ro fs 10 RA rs.length (rs.flatMap cO.cells))(M:Ro L 1 Z data.length (Gt data))(hL:∀f∈L,f∈fs)(O:rs.length<=1000000)(S:St B w0 w ((.Mg I (dN n up (.slice Z data.length dc) MC bv Hh Us iv pv turn) 105)::fs)):
 Calls tP 44 #[pV I 0,.slice RA rs.length rc] w (λe w'=> ∃A' c' N,e=.returned (.bool true)/\Ro (L++N) 1 A' d'.length (Gt d')/\St B w0 w' ((.Mg I (dN n up (.slice A' d'.length c') MC bv Hh Us iv pv turn) 105)::(fs++N))):=(F9 (rc:=rc) J M hL O S).mono λe w' h=>h.elim (λh=>by rw[hw]at h;cases h.1) λ⟨d2,A',c',N,h,h1,h2,h3⟩=>by
 rw[hw]at h
 cases h;exact⟨A',c',N,h1,h2,h3⟩
def ahv{kn kw:Nat}{L:List J8}:∀ {p:Option bS} {v:Value},qc kn kw L p v->v.oneCell'=true
 |none,v,h=>by
  have I:v=.nilFunc:=h;subst I;rfl
 |some p,v,h=>by
  obtain⟨f,xs,ys,rfl⟩:=KN h;rfl
def axu{me turn:Nat}{up:Bool}{tv bv iv pv:Value}{MC:Int}{H:Nat->Pl}{U:Nat->Bool}(h1:tv.oneCell'=true)(I:bv.oneCell'=true)(J:iv.oneCell'=true)(M:pv.oneCell'=true):∀u∈(dN me up tv MC bv H U iv pv turn).toList,u.oneCell'=true:=by
 intro u h;simp only[dN,mem_cons,not_mem_nil,or_false]at h
 rcases h with rfl|rfl|rfl|rfl|rfl|rfl|rfl|rfl|rfl|rfl|rfl|rfl|rfl|rfl|rfl|rfl|rfl|rfl|rfl|rfl<;>first|rfl|assumption
section
variable {V:Nat->aU}{k n:Nat}{s:Int}{d d':List UInt8}{bs ws:List BX}{L:List J8}{m mm md:Cl}{X:Nd}{y x:BX}{b:aU}{H:List LX}
def Po(I:∀y∈bs,y.b.Gs.length<=y.c)(y:BX)(h:y∈bs):Cn (fK bs) y:=⟨Ro.cZ (mem_map.2 ⟨y,h,E⟩),I y h⟩
def WG(h:bs.map BX.b=vB V)(J:k<4):∃y,bs[k]? =some y/\y.b=V k:=by
 have M:bs.length=4:=by have:=congrArg length h;simpa[vB]using this
 refine⟨bs[k],getElem?_eq_getElem Y,?_⟩;have h1:(bs.map BX.b)[k]? =some (bs[k]).b:=by rw[getElem?_map,getElem?_eq_getElem Y];rfl
 rw[h]at h1;have I:k=0\/k=1\/k=2\/k=3:=Y
 rcases I with rfl|rfl|rfl|rfl<;>(simp only[vB]at h1;exact(Option.some.inj h1).symm)
def ar1:vB V=vB (λj=>if j<0/\(V j).Gq=1 then(dL (V j)).1 else V j):=AV λj _=>by rw[if_neg Y]
def ady(h:¬(V k).Gq=1):vB (λj=>if j<k/\(V j).Gq=1 then(dL (V j)).1 else V j)=vB (λj=>if j<k+1/\(V j).Gq=1 then(dL (V j)).1 else V j):=AV λj _=>by
 by_cases e:j=k
 ·subst e;rw[if_neg (λI=>h I.2),if_neg (λI=>h I.2)]
 by_cases J:j<k/\(V j).Gq=1
 ·rw[if_pos J,if_pos ⟨by omega,J.2⟩]
 rw[if_neg J,if_neg (λI=>J ⟨by omega,I.2⟩)]
def adz(I:k<4)(J:(V k).Gq=1)(M:(dL (V k)).1=b):(vB (λj=>if j<k/\(V j).Gq=1 then(dL (V j)).1 else V j)).set k b=vB (λj=>if j<k+1/\(V j).Gq=1 then(dL (V j)).1 else V j):=by
 rw[V9 I];refine AV λj _=>?_;by_cases e:j=k
 ·subst e;rw[Ee,if_pos ⟨by omega,J⟩,M]
 rw[Kg e];by_cases h:j<k/\(V j).Gq=1
 ·rw[if_pos h,if_pos ⟨by omega,h.2⟩]
 rw[if_neg h,if_neg (λO=>h ⟨by omega,O.2⟩)]
def adA{r:List Nat}(h:¬(V k).Gq=1):eG s V (k::r) d=eG s V r d:=by rw[eG,if_pos h]
def adB{r:List Nat}(h:(V k).Gq=1)(h1:(dL (V k)).2=0)(I:fD d s [fH 2 k (V k).ep 0 aF]=some d'):eG s V (k::r) d=eG s V r d':=by
 rw[eG,if_neg (λe=>e h),if_neg (λe=>e h1),I]
def ahw{r:List Nat}(h:(V k).Gq=1)(h1:¬(dL (V k)).2=0):eG s V (k::r) d=none:=by rw[eG,if_neg (λe=>e h),if_pos h1]
def ahx{r:List Nat}(h:(V k).Gq=1)(I:fD d s [fH 2 k (V k).ep 0 aF]=none):eG s V (k::r) d=none:=by
 rw[eG,if_neg (λe=>e h)]
 split
 ·rfl
 rw[I]
def KO:∀ {M:List Nat} {d d':List UInt8},eG s V M d=some d'-> ∀q∈M,(V q).Gq=1->au (iE (V q))=0/\dL (V q)=(iE (V q),0)
 |[],d,d',h,q,I,_=>by simp at I
 |k::r,d,d',h,q,I,J=>by
  rw[eG]at h;by_cases c1:(V k).Gq≠1
  ·rw[if_pos c1]at h
   rcases mem_cons.1 I with rfl|I
   ·exact absurd J c1
   exact KO h q I J
  rw[if_neg c1]at h;by_cases c2:(dL (V k)).2≠0
  ·rw[if_pos c2]at h;cases h
  rw[if_neg c2]at h
  split at h
  ·cases h
  rcases mem_cons.1 I with rfl|I
  ·exact Z6 J c2
  exact KO h q I J
def adC(h:eG s V [0,1,2,3] d=some d')(q:Nat)(J:q<4):(V q).Gq=1->au (iE (V q))=0/\dL (V q)=(iE (V q),0):=KO h q (by
 have I:q=0\/q=1\/q=2\/q=3:=Y
 rcases I with rfl|rfl|rfl|rfl<;>decide)
def ahy(hw:(V k).Gq=1->au (iE (V k))=0/\dL (V k)=(iE (V k),0))(h:x.b=if k<4/\(V k).Gq=1 then(dL (V k)).1 else V k)(I:¬x.b.Gq=1):¬(V k).Gq=1:=λe=>I (by
 rw[h]
 split
 ·rw[(hw e).2];rfl
 exact e)
def ahz(J:x.b=if k<4/\(V k).Gq=1 then(dL (V k)).1 else V k)(I:x.b.Gq=1):(V k).Gq=1:=by
 by_cases c:(V k).Gq=1
 ·exact c
 rw[J,if_neg (λh=>c h.2)]at I;exact I
def Y6{r:List Nat}(h:¬(V k).Gq=1):Cl.QG n V (k::r) mm=Cl.QG n V r mm:=by rw[Cl.QG,if_pos h]
def Y7{r:List Nat}(h:(V k).Gq=1)(I:md=((mm.recover n k).ay n k (dL (V k)).1).QL n k aF eU (-1)):Cl.QG n V (k::r) mm=Cl.QG n V r md:=by rw[Cl.QG,if_neg (λe=>e h),I]
def adD{q:Nat}(h:mm.ah n=X):(mm.ay n q b).QL n q aF eU (-1)={mm.put n (X.ay q b)with aP:=mm.aP++[⟨n,q,b.ep,aF,eU,-1⟩],MG:=iD mm.MG n q (b.ep,(b.Gs.length:Int))}:=by
 subst h;have e:((mm.ay n q b).ah n).bs q=b:=by
  show(Na mm.ah n _ n).bs q=b
  rw[Ee];exact Ee _ _ _
 unfold Cl.QL;rw[e];rfl
def alG(h:∀q,q<4->au (X.bs q)=0)(I:au b=0)(j:Nat)(J:j<4):au ((X.ay k b).bs j)=0:=by
 show au (Na X.bs k b j)=0
 by_cases e:j=k
 ·rw[e,Ee];exact I
 rw[Kg e];exact h j J
def Jv{f:Nat->Nat->Int×Int}{a q:Nat}{e:Int}{l:List Ev}(h:∀a b,0<=(f a b).2)(i j:Nat):0<=(iD f a q (e,(l.length:Int)) i j).2:=by
 unfold iD
 split
 ·exact Int.natCast_nonneg _
 exact h i j
def Gj(m:Cl)(n q:Nat)(h:∀a b,0<=(m.MG a b).2):(m.recover n q).ah=m.ah/\(m.recover n q).Ms=m.Ms/\ ∀a b,0<=((m.recover n q).MG a b).2:=by
 have tl:∀(m:Cl) e a u,(∀a b,0<=(m.MG a b).2)-> ∀i j,0<=((m.QL n q e a u).MG i j).2:=λm e a u h=>Jv h;have rc:∀(il:List Nat) (m:Cl) Gs an,(∀a b,0<=(m.MG a b).2)->(m.recovered n q Gs an il).ah=m.ah/\(m.recovered n q Gs an il).Ms=m.Ms/\ ∀i j,0<=((m.recovered n q Gs an il).MG i j).2:=by
  intro il
  induction il with
  |nil=>intro m Gs an h;exact⟨E,E,h⟩
  |cons i r I=>
   intro m Gs an h;rw[Cl.recovered];exact I _ Gs an (tl m _ _ _ h)
 unfold Cl.recover
 split
 ·exact⟨E,E,tl m _ _ _ h⟩
 exact rc _ m _ _ h
def ahA(h:(m.ah n).up=true):m.start n=m:=if_pos h
def Uc(I:m.ah n=X)(J:X.up=false)(h:eG (jC X.data X.MC).2.1 (bD X.data X.MC) [0,1,2,3] (jC X.data X.MC).1=none):m.start n=m:=by
 subst I;unfold Cl.start;rw[if_neg (by rw[J];simp),h]
def adE(I:m.ah n=X)(J:X.up=false)(h:eG (jC X.data X.MC).2.1 (bD X.data X.MC) [0,1,2,3] (jC X.data X.MC).1=some d):
 m.start n=Cl.QG n (bD X.data X.MC) [0,1,2,3] (m.put n {X.blank with up:=true,data:=d,MC:=(d.length:Int),bs:=bD X.data X.MC}):=by
 subst I;unfold Cl.start;rw[if_neg (by rw[J];simp),h]
def hwl(ws:List BX):List LX:=ws.map λy=>⟨{Gs:=y.b.Gs},y.A,y.c⟩
def ar2(h:∀u∈hwl ws++H,Rx L u)(I:ws[k]? =some x):Cn L x:=h ⟨{Gs:=x.b.Gs},x.A,x.c⟩ (mem_append_left _ (mem_map.2 ⟨x,mem_of_getElem? I,E⟩))
def alH{P:LX->Prop}(h:∀y∈ws,P ⟨{Gs:=y.b.Gs},y.A,y.c⟩):∀u∈hwl ws++H,u∈H\/P u:=λu I=>(mem_append.1 I).elim (λh1=>by obtain⟨y,J,rfl⟩:=mem_map.1 h1;exact .inr (h y J)) .inl
def Cn.more{N:List J8}(h:Cn L x):Cn (L++N) x:=h.mono λ_ I=>mem_append_left _ I
def ahB{K:CK}{B:Nat}{w0 w:World}{fs:List J8}(h:Wd K B w0 w fs m (hwl ws++H)):Wd K B w0 w fs m H:=by
 obtain⟨R,G,S⟩:=h;exact⟨R,⟨G.Ms,G.flo,G.iK,G.arr,λu I=>G.hld u (mem_append_right _ I)⟩,S⟩
def aDS{lK N Ls:List J8}{f:J8}(h:f∈lK):f∈L++((lK++N)++Ls):=mem_append_right _ (mem_append_left _ (mem_append_left _ h))
def aDT{lK Ls:List J8}{f:J8}(h:f∈lK):f∈L++(lK++Ls):=mem_append_right _ (mem_append_left _ h)
end
def VG{K:CK}{B n kn kw:Nat}{w0 w:World}{fs:List J8}{m:Cl}{H:List LX}(hn:n<5)(hkn:K.nb n=kn)(iH:K.wb=kw)(hu:Uk B w0)(hB1:m.Ms.length<=1000000000)(hB2:m.aP.length<=900000000000)(HW:Wd K B w0 w fs m H)(hT:Dn (m.ah n).data (m.ah n).MC=some (vB (bD (m.ah n).data (m.ah n).MC)))(hvv:∀q,q<4->au (bD (m.ah n).data (m.ah n).MC q)=0)(hbz:(uP (jC (m.ah n).data (m.ah n).MC).1 (jC (m.ah n).data (m.ah n).MC).2.1).1.length*80<=reachBytes)(hmay:∀d,eG (jC (m.ah n).data (m.ah n).MC).2.1 (bD (m.ah n).data (m.ah n).MC) [0,1,2,3] (jC (m.ah n).data (m.ah n).MC).1=some d->dx d (jC (m.ah n).data (m.ah n).MC).2.1=true)(hsh:∀a b,0<=(m.MG a b).2):
 Calls tP 37 #[pV kw 0,pV kn 0] w (λe w'=>e=.returned (.tuple #[])/\Wd K B w0 w' fs (m.start n) H):=by
 obtain⟨R,G,S0⟩:=HW.open hn;have hfl:R.fx.length=m.Ms.length:=by rw[<-G.Ms,length_map]
 have NG:=G.iK n hn;obtain⟨X,hX⟩:∃X,m.ah n=X:=⟨_,E⟩;obtain⟨z,hz⟩:∃z,R.nx n=z:=⟨_,E⟩;rw[hX,hz]at S0 NG;have hL:∀f∈R.L,f∈gG K R m fs n:=λf h=>mem_append_right _ (mem_append_right _ h);obtain⟨rr,hrr⟩:∃r,gG K R m fs n=r:=⟨_,E⟩;rw[hrr]at S0 hL;have S:St B w0 w (cN kn n X z z.pv (cF kw R m rr)):=by subst hkn;subst iH;exact S0
 clear S0 HW;have hlen:=(S.own 1 E).1;rw[iL (sz:=6) (λ_=>E)]at hlen;have aDU:z.pv.oneCell'=true:=ahv NG.lu;obtain⟨P1,hP1⟩:∃r,jC X.data X.MC=r:=⟨_,E⟩;rw[hX]at hT hvv hbz hmay;have HRd:=λw h=>IB z.tA z.tc X.data X.MC w h hT hbz;rw[hP1]at HRd hmay;refine gP 113 func37 ?_;refine cw [0,1] ?_;refine zN 9 ?_
 cases hb1:(X.up)
 ·refine bI (l':=[(0,pV kw 0),(1,pV kn 0),(18,.bool false)]) FH (mq E (qQ (iw (aQ (aC (vm ?_))))));refine zN 2 ?_;refine vv (aj E E (dP (cs:=[.slice z.tA X.data.length z.tc,D X.MC]) (St.rg 0 S E (sj)))) ?_;refine dJ eQ (HRd _ (NG.yh.rd S (M9 7 E hL))) ?_;rintro _ w9 ⟨A2,c3,bB,bs,hbm,hbl,hbc,rfl,T8⟩;refine⟨_,E,?_⟩;have DI:=S.ext T8 (by simp[KM,J8.IE]);have Ay:St B w0 w9 ((oB bB bs)::(.cZ 1 A2 P1.1.length (Gt P1.1))::(cN kn n X z z.pv (cF kw R m (rr++fK bs)))):=St.perm DI (Perm.cons _ (Perm.cons _ (perm_append_comm (l₁:=fK bs))));clear S;refine zN 3 ?_;refine gD Ay zn ?_;intro b12 En mZ;refine stA 0 mZ kQ ?_;intro JR o8;refine zN 6 ?_;refine dJ eQ (abC _ 4 4 (bs.flatMap BX.cells) _ (St.Rn 1 o8 E) (ak1 _) dQ) ?_;rintro _ FN ⟨A17,I,rfl,aDV,aDW⟩;refine⟨_,E,?_⟩;have jY:=o8.uG aDV aDW;obtain⟨wB,hWA⟩:=EJ (jY.own 0 E) dQ;subst hWA;refine zN 8 ?_;refine gD jY awg ?_;intro AJ Oc lH;refine stA 0 lH kQ ?_ (h1:=by exact axu E E E aDU);intro M4 sS;refine zN 6 ?_;refine jH (row':=dN n X.up (.slice A2 P1.1.length c3) P1.2.1 (.slice (aD z.bb 0) 4 4) X.Nh X.Nf (.slice z.iA z.ix.length z.ic) (z.pv) X.turn) 0 sS kQ ?_;intro V3 tF;refine zN 11 ?_;have zP:=tF.aO [2];have oW:St B w0 V3 (_::_::_::_::_::_::_::_::_::_::((rr++fK bs)++[.cZ 1 A2 P1.1.length (Gt P1.1)])):=zP.toEnd 3 E;have uw:=oW.eH [9,9,9,9,9,9,9];refine fJ (X:=Nat×(Option Addr)×Nat×(List UInt8)×(List BX)×(List J8)) (λO=>[(0,pV kw 0),(1,pV kn 0),(5,.slice (aD bB 0) 4 4),(6,.slice (aD wB 0) 4 I),(7,pV AJ 0),(34,.slice (aD bB 0) 4 4),(35,D 4),(36,D (O.1:Int))]) (λO wr=>(O.1<=4)/\(eG P1.2.1 (bD X.data X.MC) [0,1,2,3] P1.1=eG P1.2.1 (bD X.data X.MC) ((range 4).drop O.1) O.2.2.2.1)/\(O.2.2.2.2.1.map BX.b=vB (λj=>if j<O.1/\((bD X.data X.MC) j).Gq=1 then(dL ((bD X.data X.MC) j)).1 else(bD X.data X.MC) j))/\(∀y∈O.2.2.2.2.1,Cn (fK bs++O.2.2.2.2.2) y)/\(Ro O.2.2.2.2.2 1 O.2.1 O.2.2.2.1.length (Gt O.2.2.2.1))/\St B w0 wr (cN kn n X z z.pv (cF kw R m ((bN AJ n X.up O.2.1 O.2.2.2.1 O.2.2.1 P1.2.1 z.bb X.Nh X.Nf z.iA z.ix z.ic z.pv X.turn)::(.own 42 6 (.slice (aD wB 0) 4 I) 4 ((O.2.2.2.2.1).flatMap BX.cells))::(oB bB bs)::((rr++fK bs)++O.2.2.2.2.2))))) (λO=>4-O.1) (0,A2,c3,P1.1,bs,[.cZ 1 A2 P1.1.length (Gt P1.1)]) ?_ ?_ ?_
  ·exact⟨zero_le _,E,(by rw[hbm];exact ar1),(λy hy=>(Po hbc y hy).mono λf hf=>mem_append_left _ hf),(Ro.cZ (mem_singleton.2 E)),uw⟩
  ·exact VP
  rintro⟨k,A9,c9,d9,ws,N9⟩ w33 ⟨ao3,Sy,Xy,aiE,Sn,qY⟩
  try dsimp only at ao3 Sy Xy aiE Sn qY
  refine bI (l':=[(0,pV kw 0),(1,pV kn 0),(5,.slice (aD bB 0) 4 4),(6,.slice (aD wB 0) 4 I),(7,pV AJ 0),(34,.slice (aD bB 0) 4 4),(35,D 4),(36,D ((k:Nat):Int))]) VP (aQ (aC ?_));by_cases h40:((k:Nat):Int)<4
  ·refine zN 10 ?_;have J:k<4:=Y;obtain⟨y,hy,hyV⟩:=WG hbm J;have qE:=Po hbc y (mem_of_getElem? hy);obtain⟨y0,hy0,_⟩:=WG Xy J;have hlw:ws.length=4:=by have:=congrArg length Xy;simpa[vB]using this
   have hvk:=hvv k J;have hln:=kH (jD hvk);have zi:y.b.Gs.length*48<=reachBytes:=by rw[hyV];unfold reachBytes;omega
   have Mx:=xH hvk;refine zN 2 ?_;refine vv (ko k) ?_;refine vv (aj E E (dP (cs:=BX.cells y) (Rd.wZ (St.Rn 9 qY E) (λ_ _ h=>bE (enc:=BX.cells) (sz:=6) (λ_=>E) hy h)))) ?_;refine gD qY fZ ?_;intro b41 SX rW;refine zQ ?_;refine stA 0 rW kQ ?_;intro N7 pQ;refine zN 7 ?_;by_cases h46:y.b.Gq=1
   ·refine zN 7 ?_;obtain⟨BR,qF⟩:∃r,dL y.b=r:=⟨_,E⟩;have HP:=λw h=>Yu y.b.Gq y.b.ep y.b.fr y.b.tg y.b.rd y.A y.c y.b.Gs w h zi;rw[show dL ⟨y.b.Gq,y.b.ep,y.b.fr,y.b.tg,y.b.rd,y.b.Gs⟩=BR from qF]at HP;refine zN 2 ?_;refine dJ eQ (HP _ (qE.1.rd pQ (M9 11 E (λf hf=>mem_append_left _ (mem_append_right _ hf))))) ?_;rintro _ VY ⟨M6,c48,axv,rfl,T52⟩;refine⟨_,E,?_⟩;have vk:=pQ.ext T52 E;refine zN 3 ?_;refine gD vk fZ ?_;intro b53 w54 vo;refine stA 0 vo kQ ?_;intro w56 vQ;refine zN 7 ?_;refine Rq eQ vQ (jl 2 k y _) ?_;intro w58 Ca;refine gD Ca xC ?_;intro b61 ZK xg;refine stA 0 xg kQ ?_;intro w64 GQ;refine zN 4 ?_;refine vv (v:=.agg #[D 4,D 0,D 0,D 0,D 0,D 0]) gH ?_;refine zQ ?_;refine jH (row':= #[D 2,D ((k:Nat):Int),D y.b.ep,D 0,D 4,D 0,D 0,D 0,D 0,D 0]) 0 GQ kQ ?_;intro VZ uL;refine zN 4 ?_;by_cases hB:BR.2=0
    ·rcases aiF:fD d9 P1.2.1 [fH 2 k y.b.ep 0 aF]with _|aDX
     ·refine zN 5 ?_;refine mV (V:=λb=>.slice (aD b 0) 1 1) (row:= #[D 2,D ((k:Nat):Int),D y.b.ep,D 0,D 4,D 0,D 0,D 0,D 0,D 0]) (t:=138) uL (wg E E E E) E E (aV (vs:=[(0,.agg #[D 2,D ((k:Nat):Int),D y.b.ep,D 0,D 4,D 0,D 0,D 0,D 0,D 0])]) E xR kQ) ?_;intro b70 w71 FP;have uq:=FP.eH [12];refine yO eQ (acA (rs:=[fH 2 k y.b.ep 0 aF]) aiF (Ro.Mg (mem_iff_getElem?.2 ⟨0,E⟩) E E) Sn (by exact M9 14 E λf hf=>mem_append_right _ hf) (le_of_ble_eq_true E) uq) ?_;rintro _ w78 ⟨rfl,BZ⟩;refine⟨_,E,?_⟩;refine zN 13 ?_;have Cb:=BZ.aO [14,13,5,4,3,2,1,0];have uo:=(Cb).Rz.Rz;have hr1:((bD X.data X.MC) k).Gq=1:=by rw[<-hyV];omega
      have zu:m.start n=m:=Uc hX ‹_› (by rw[hP1,Sy,nN J];exact ahx hr1 (by rw[<-hyV];exact aiF));rw[zu];exact⟨E,Wd.dR (X':=X) (z':=z) (Ls:=[]) (fA:=R.fA) (fc:=R.fc) (fx:=R.fx) (sA:=R.sA) (sc:=R.sc) (tA:=R.tA) (tc:=R.tc) hkn iH hrr G hn uo NG.more (λu hu=>.inl hu) (aB hX).symm G.Ms.symm mI⟩
     refine zN 5 ?_;refine mV (V:=λb=>.slice (aD b 0) 1 1) (row:= #[D 2,D ((k:Nat):Int),D y.b.ep,D 0,D 4,D 0,D 0,D 0,D 0,D 0]) (t:=138) uL (wg E E E E) E E (aV (vs:=[(0,.agg #[D 2,D ((k:Nat):Int),D y.b.ep,D 0,D 4,D 0,D 0,D 0,D 0,D 0])]) E xR kQ) ?_;intro b82 w83 FR;have JW:=FR.eH [12];refine yO eQ (acB (rs:=[fH 2 k y.b.ep 0 aF]) aiF (Ro.Mg (mem_iff_getElem?.2 ⟨0,E⟩) E E) Sn (by exact M9 14 E λf hf=>mem_append_right _ hf) (le_of_ble_eq_true E) JW) ?_;rintro _ w90 ⟨A86,c87,N88,rfl,axw,QX⟩;refine⟨_,E,?_⟩;refine zN 11 ?_;refine vv (ko k) ?_;refine l9 (xs':=(ws.set k (⟨BR.1,M6,c48⟩:BX)).flatMap BX.cells) 13 QX (wn E) E E E E E E xB E (bY E) (by omega) (by rw[Nat.zero_add];exact qK (enc:=BX.cells) (sz:=6) (λ_=>E) (⟨BR.1,M6,c48⟩:BX) _ _ (by omega)) ?_;intro w92 DF;have aLA:(ws.set k (⟨BR.1,M6,c48⟩:BX))[k]? =some (⟨BR.1,M6,c48⟩:BX):=getElem?_set_self Y;refine zN 4 ?_;refine vv (v:=D ((k+1:Nat):Int)) iI ?_;refine zN 2 ?_;have Lp:=DF.aO [5,3,2,1];have DK:St B w0 w92 (_::_::_::_::_::_::_::_::_::_::((((rr++fK bs)++N9)++N88)++[.cZ 6 M6 BR.1.Gs.length ((BR.1.Gs).flatMap Ev.cells)])):=Lp.toEnd 1 E;have DJ:=DK.eH [7,7,7,7,7,7,7];have DT:=DJ;have hr1:((bD X.data X.MC) k).Gq=1:=by rw[<-hyV];omega
     have hap:((((rr++fK bs)++N9)++N88)++[.cZ 6 M6 BR.1.Gs.length ((BR.1.Gs).flatMap Ev.cells)])=((rr++fK bs)++(N9++(N88++[.cZ 6 M6 BR.1.Gs.length ((BR.1.Gs).flatMap Ev.cells)]))):=by simp only[append_assoc]
     rw[hap]at DT;refine bC (k+1,A86,c87,aDX,ws.set k (⟨BR.1,M6,c48⟩:BX),N9++(N88++[.cZ 6 M6 BR.1.Gs.length ((BR.1.Gs).flatMap Ev.cells)])) ?_ VP (by first|omega|(dsimp only;omega));exact⟨uQ,(by dsimp only;rw[Sy,nN J];exact adB hr1 (by rw[<-hyV,qF];exact hB) (by rw[<-hyV];exact aiF)),(by dsimp only;rw[map_set,Xy];exact adz J hr1 (by rw[<-hyV,qF])),(Ez (λu hu=>(aiE u hu).mono (λf hf=>(mem_append.1 hf).elim (λh=>mem_append_left _ h) λh=>mem_append_right _ (mem_append_left _ h))) ⟨Ro.cZ (mem_append_right _ (mem_append_right _ (mem_append_right _ (mem_singleton.2 E)))),axv⟩),(axw.mono (λf hf=>(mem_append.1 hf).elim (λh=>mem_append_left _ h) λh=>mem_append_right _ (mem_append_left _ h))),DT⟩
    refine zN 20 ?_;have S99:=uL.aO [13,12,11,3,2,1,0];have wM:=(S99).Rz.Rz;have hr1:((bD X.data X.MC) k).Gq=1:=by rw[<-hyV];omega
    have zu:m.start n=m:=Uc hX ‹_› (by rw[hP1,Sy,nN J];exact ahw hr1 (by rw[<-hyV,qF];exact hB));rw[zu];exact⟨E,Wd.dR (X':=X) (z':=z) (Ls:=[]) (fA:=R.fA) (fc:=R.fc) (fx:=R.fx) (sA:=R.sA) (sc:=R.sc) (tA:=R.tA) (tc:=R.tc) hkn iH hrr G hn wM NG.more (λu hu=>.inl hu) (aB hX).symm G.Ms.symm mI⟩
   refine zN 9 ?_;refine vv (v:=D ((k+1:Nat):Int)) iI ?_;refine zN 2 ?_;have wR:=pQ.aO [0];have tO:=wR;have hro:¬((bD X.data X.MC) k).Gq=1:=by rw[<-hyV];assumption
   refine bC (k+1,A9,c9,d9,ws,N9) ?_ VP (by first|omega|(dsimp only;omega));exact⟨uQ,(by dsimp only;rw[Sy,nN J];exact adA hro),(by dsimp only;rw[Xy];exact ady hro),aiE,Sn,tO⟩
  refine zN 15 ?_;refine jH (row':=dN n true (.slice z.tA X.data.length z.tc) X.MC (.slice (aD z.bb 0) 4 4) X.Nh X.Nf (.slice z.iA z.ix.length z.ic) (z.pv) X.turn) 0 qY kQ ?_;intro aDD yT;refine zN 5 ?_;refine dJ eQ (nS yT hu) ?_;rintro _ abT ⟨rfl,axx,EX⟩;refine⟨_,E,?_⟩;have vL:=EX.aO [3,2,1];refine zN 6 ?_;refine vv (aj E E (dP (cs:=[.slice A9 d9.length c9,D P1.2.1]) (St.rg 5 vL E (sj)))) ?_;have hwA:eG P1.2.1 (bD X.data X.MC) [0,1,2,3] P1.1=some d9:=by rw[Sy,drop_eq_nil_of_le (by rw[length_range];omega)];rfl
  have Gi:=λw h=>BD (pJ A9 d9.length c9 d9 P1.2.1 w h);rw[yG (hmay _ hwA)]at Gi;refine dJ eQ (Gi _ (Sn.rd vL (M9 8 E λf hf=>mem_append_right _ hf))) ?_;rintro _ abV ⟨Oo,Sl,rfl,aDY⟩;refine⟨_,E,?_⟩;have Ch:=vL.ext aDY E;refine zN 5 ?_;refine jH (row':=dN n true (.slice Oo d9.length Sl) (d9.length:Int) (.slice (aD axx 0) 4 4) (λ_=>nowhere) (λ_=>false) (.slice none 0 0) (.nilFunc) X.turn) 1 Ch kQ ?_;intro aif qx;refine zN 8 ?_;refine jH (row':=dN n true (.slice Oo d9.length Sl) (d9.length:Int) (.slice (aD bB 0) 4 4) (λ_=>nowhere) (λ_=>false) (.slice none 0 0) (.nilFunc) X.turn) 1 qx kQ ?_;intro at1 Ao;refine zN 10 ?_;have hwA:eG P1.2.1 (bD X.data X.MC) [0,1,2,3] P1.1=some d9:=by rw[Sy,drop_eq_nil_of_le (by rw[length_range];omega)];rfl
  have aDZ:k=4:=Y;have hsp:=Xy;rw[aDZ]at hsp;have wO:=Ao.aO [6];have xY:=wO.CO 119 23;have sM:=(((((((((xY.bring 7 E).bring 2 E).bring 7 E).bring 7 E).bring 7 E).bring 7 E).bring 6 E).bring 8 E).bring 8 E);rw[show((rr++fK bs)++N9)=(rr++(fK bs++N9))from append_assoc ..]at sM;obtain⟨m1,hm1⟩:∃k,k=m.put n {X.blank with up:=true,data:=d9,MC:=(d9.length:Int),bs:=(bD X.data X.MC)}:=⟨_,E⟩;have HW1:Wd K B w0 at1 ((.own 42 6 (.slice (aD wB 0) 4 I) 4 ((ws).flatMap BX.cells))::fs) m1 (hwl ws++H):=by
   rw[hm1];refine Wd.fin (m:=m) (fs:=(.own 42 6 (.slice (aD wB 0) 4 I) 4 ((ws).flatMap BX.cells))::fs) (X':={X.blank with up:=true,data:=d9,MC:=(d9.length:Int),bs:=(bD X.data X.MC)}) (z':={bb:=bB,tA:=Oo,tc:=Sl,bx:=bs,iA:=none,ic:=0,ix:=[],pv:=.nilFunc}) (N:=fK bs++N9) (Ls:=[.cZ 1 Oo d9.length (Gt d9)]) (rr:=(.own 42 6 (.slice (aD wB 0) 4 I) 4 ((ws).flatMap BX.cells))::rr) (H:=H) (fA:=R.fA) (fc:=R.fc) (fx:=R.fx) (sA:=R.sA) (sc:=R.sc) (tA:=R.tA) (tc:=R.tc) hkn iH (by rw[<-hrr];rfl) G hn sM ⟨hbm,λu hu=>(Po hbc u hu).mono (λf hf=>aDS hf),Ro.cZ (sw (mem_singleton.2 E)),E,λu hu=>by simp at hu,E⟩ (λu hu=>.inl hu) E G.Ms.symm ?_;exact alH λy hy=>(aiE y hy).mono λf hf=>aDT hf
  have hwo:=adC hwA;have avk:m1.ah n={X.blank with up:=true,data:=d9,MC:=(d9.length:Int),bs:=(bD X.data X.MC)}:=by rw[hm1];exact aX _
  refine fJ (X:=Nat×Cl) (λO=>[(0,pV kw 0),(1,pV kn 0),(85,.slice (aD wB 0) 4 I),(86,D 4),(87,D (O.1:Int))]) (λO wr=>(Wd K B w0 wr ((.own 42 6 (.slice (aD wB 0) 4 I) 4 ((ws).flatMap BX.cells))::fs) O.2 (hwl ws++H))/\(Cl.QG n (bD X.data X.MC) [0,1,2,3] m1=Cl.QG n (bD X.data X.MC) ((range 4).drop O.1) O.2)/\(O.1<=4)/\(O.2.Ms=m.Ms)/\(∀j,j<4->au ((O.2.ah n).bs j)=0)/\(∀j,O.1<=j->j<4->(O.2.ah n).bs j=(bD X.data X.MC) j)/\(∀a b,0<=(O.2.MG a b).2)/\(O.2.aP.length<=m.aP.length+2001*O.1)/\St B w0 wr [.own 42 6 (.slice (aD wB 0) 4 I) 4 ((ws).flatMap BX.cells)]) (λO=>4-O.1) (0,m1) ?_ ?_ ?_
  ·exact⟨HW1,E,zero_le _,by rw[hm1];rfl,λj hj=>by dsimp only;rw[avk];exact hvv j hj,λj _ _=>by dsimp only;rw[avk],λa b=>by dsimp only;rw[hm1];exact hsh a b,by dsimp only;rw[hm1];exact Nat.le_refl _,Wd.Iy (gs:=[.own 42 6 (.slice (aD wB 0) 4 I) 4 ((ws).flatMap BX.cells)]) HW1⟩
  ·exact Av
  rintro⟨M,mm⟩ ab1 ⟨aei,Xz,axy,XA,Z,XB,XC,axz,Di⟩
  try dsimp only at aei Xz axy XA Z XB XC axz Di
  refine bI (l':=[(0,pV kw 0),(1,pV kn 0),(85,.slice (aD wB 0) 4 I),(86,D 4),(87,D (M:Int))]) Av ?_;obtain⟨R3,G3,WH⟩:=aei.open hn;have Ud:=G3.iK n hn;obtain⟨X3,Ue⟩:∃X,mm.ah n=X:=⟨_,E⟩;obtain⟨z3,hz3⟩:∃z,R3.nx n=z:=⟨_,E⟩;rw[Ue,hz3]at WH Ud;obtain⟨rr3,Jw⟩:∃r,gG K R3 mm fs n=r:=⟨_,E⟩;have aLB:R3.fx.length=mm.Ms.length:=by rw[<-G3.Ms,length_map]
  have yU:St B w0 ab1 (cN kn n X3 z3 z3.pv (cF kw R3 mm ((.own 42 6 (.slice (aD wB 0) 4 I) 4 ((ws).flatMap BX.cells))::rr3))):=by rw[<-Jw];subst hkn;subst iH;exact WH
  clear WH;have hlen3:=(yU.own 1 E).1;rw[iL (sz:=6) (λ_=>E)]at hlen3;rw[Ue]at Z XB;refine zN 2 ?_;by_cases aD0:(M:Int)<4
  ·refine zN 10 ?_;have J:M<4:=Y;obtain⟨x,hx,hxs⟩:=WG hsp J;refine zN 2 ?_;refine vv (ko M) ?_;refine vv (aj E E (dP (cs:=BX.cells x) (Rd.wZ (St.Rn 7 yU E) (λ_ _ h=>bE (enc:=BX.cells) (sz:=6) (λ_=>E) hx h)))) ?_;refine gD yU fZ ?_;intro ao4 an5 GN;refine zQ ?_;refine sa 0 GN kQ ?_;intro abF ES;refine zN 7 ?_;by_cases aLC:x.b.Gq=1
   ·refine zN 11 ?_;have Dg:=ES.eH [7,7,7,7,7,7,7];have axA:=Wd.dR (m:=mm) (m':=mm) (H:=hwl ws++H) (H':=hwl ws++H) (fs:=(.Mg ao4 (bR x.b x.A x.c) 42)::(.own 42 6 (.slice (aD wB 0) 4 I) 4 ((ws).flatMap BX.cells))::fs) (X':=X3) (z':=z3) (Ls:=[]) (fA:=R3.fA) (fc:=R3.fc) (fx:=R3.fx) (sA:=R3.sA) (sc:=R3.sc) (tA:=R3.tA) (tc:=R3.tc) (rr:=(.Mg ao4 (bR x.b x.A x.c) 42)::(.own 42 6 (.slice (aD wB 0) 4 I) 4 ((ws).flatMap BX.cells))::rr3) hkn iH (by rw[<-Jw];rfl) G3 hn Dg Ud.more (λu hu=>.inl hu) (aB Ue).symm G3.Ms.symm mI;refine dJ eQ (aaB hn hkn iH hu (by rw[XA];exact hB1) Y J axA (by rw[Ue];exact Z) (XC n M)) ?_;rintro _ aD1 ⟨rfl,ant⟩;refine⟨_,E,?_⟩;have NP:=Gj mm n M (XC);have hrs:=(F8 (n:=n) (q:=M) mm (by rw[Ue];exact kH (jD (Z M J)))).2;obtain⟨mc,hmc⟩:∃k,k=mm.recover n M:=⟨_,E⟩;rw[<-hmc]at ant NP hrs;obtain⟨R5,G5,S05⟩:=ant.open hn;have NG5:=G5.iK n hn;obtain⟨X5,hX5⟩:∃X,mc.ah n=X:=⟨_,E⟩;obtain⟨z5,hz5⟩:∃z,R5.nx n=z:=⟨_,E⟩;rw[hX5,hz5]at S05 NG5;obtain⟨rr5,avl⟩:∃r,gG K R5 mc fs n=r:=⟨_,E⟩;have aLD:R5.fx.length=mc.Ms.length:=by rw[<-G5.Ms,length_map]
    have WZ:St B w0 aD1 (cN kn n X5 z5 z5.pv (cF kw R5 mc ((.Mg ao4 (bR x.b x.A x.c) 42)::(.own 42 6 (.slice (aD wB 0) 4 I) 4 ((ws).flatMap BX.cells))::rr5))):=by rw[<-avl];subst hkn;subst iH;exact S05
    clear S05;have axB:=(WZ.own 1 E).1;rw[iL (sz:=6) (λ_=>E)]at axB;obtain⟨y5,hy5,aLE,aLF⟩:=NG5.at_ J;refine zN 3 ?_;have Xi:=WZ.drew;refine fM 8 6 Xi [] ?_;iterate 6 refine gW ?_
    refine fC kQ E E E ?_;refine vv (ko M) ?_;refine l9 (xs':=(z5.bx.set M (⟨x.b,x.A,x.c⟩:BX)).flatMap BX.cells) 1 Xi (wn E) E E E E E E xB E (bY E) (by omega) (by rw[Nat.zero_add];exact qK (enc:=BX.cells) (sz:=6) (λ_=>E) (⟨x.b,x.A,x.c⟩:BX) _ _ (by omega)) ?_;intro aCB I9;have hy153:(z5.bx.set M (⟨x.b,x.A,x.c⟩:BX))[M]? =some (⟨x.b,x.A,x.c⟩:BX):=getElem?_set_self Y;refine zQ ?_;refine jg ?_;refine zN 5 ?_;refine vv (v:=.agg #[D 4,D 0,D 0,D 0,D 0,D 0]) gH ?_;refine zQ ?_;refine dJ eQ (nR hn J hy153 aF eU (-1) I9 Y) ?_;rintro _ aD2 ⟨rfl,aD3,aD4,aGC,axC,aD5⟩;refine⟨_,E,?_⟩;subst axC;have Ob:=aD5.aO [7];have hr1:((bD X.data X.MC) M).Gq=1:=ahz hxs Y;have hxb:x.b=iE ((bD X.data X.MC) M):=by rw[hxs,if_pos ⟨J,hr1⟩,(hwo M J hr1).2]
    obtain⟨md,hmd⟩:∃k,k=(mc.ay n M x.b).QL n M aF eU (-1):=⟨_,E⟩;have aD6:md=((mm.recover n M).ay n M (dL ((bD X.data X.MC) M)).1).QL n M aF eU (-1):=by rw[hmd,hmc,hxb,(hwo M J hr1).2]
    have adF:md={mc.put n (X5.ay M x.b)with aP:=mc.aP++[⟨n,M,x.b.ep,aF,eU,-1⟩],MG:=iD mc.MG n M (x.b.ep,(x.b.Gs.length:Int))}:=by rw[hmd];exact adD hX5
    have aD7:md.Ms=mm.Ms:=by rw[adF];exact NP.2.1
    have hnm:(mc.ah n)=X3:=by rw[NP.1,Ue]
    have avm:X5=X3:=by rw[<-hX5];exact hnm
    have avn:md.ah n=X5.ay M x.b:=by rw[adF];exact aX _
    have aD8:∀j,j<4->au ((md.ah n).bs j)=0:=λj hj=>by rw[avn];exact alG (by rw[avm];exact Z) (by rw[hxb];exact(hwo M J hr1).1) j hj
    have aD9:∀j,M+1<=j->j<4->(md.ah n).bs j=(bD X.data X.MC) j:=λj h1 h2=>by rw[avn,avm];exact(Kg Y).trans (XB j Y h2)
    have aEa:∀a b,0<=(md.MG a b).2:=by rw[adF];exact Jv (a:=n) (q:=M) (e:=x.b.ep) (l:=x.b.Gs) NP.2.2
    have aLG:md.aP.length=mc.aP.length+1:=by rw[adF];exact length_append ..
    clear hmd;have anu:Wd K B w0 aD2 ((.own 42 6 (.slice (aD wB 0) 4 I) 4 ((ws).flatMap BX.cells))::fs) md (hwl ws++H):=by
     rw[adF];exact Wd.dR (m:=mc) (H:=hwl ws++H) (fs:=(.own 42 6 (.slice (aD wB 0) 4 I) 4 ((ws).flatMap BX.cells))::fs) (X':=X5.ay M x.b) (z':={z5 with bx:=z5.bx.set M (⟨x.b,x.A,x.c⟩:BX)}) (Ls:=[]) (fA:=R5.fA) (fc:=R5.fc) (fx:=R5.fx) (sA:=aD3) (sc:=aD4) (tA:=R5.tA) (tc:=R5.tc) (rr:=(.own 42 6 (.slice (aD wB 0) 4 I) 4 ((ws).flatMap BX.cells))::rr5) hkn iH (by rw[<-avl];rfl) G5 hn Ob (dX.anq (dz:=x) NG5.more J (ar2 G5.hld hx).more) (λu hu=>.inl hu) E G5.Ms.symm mI
    refine zN 4 ?_;refine vv (v:=D ((M+1:Nat):Int)) iI ?_;refine zN 2 ?_;refine bC (M+1,md) ?_ Av (by first|omega|(dsimp only;omega));exact⟨anu,(by dsimp only;rw[Xz,nN J];exact Y7 hr1 aD6),uQ,(by dsimp only;rw[aD7];exact XA),(by dsimp only;exact aD8),(by dsimp only;exact aD9),(by dsimp only;exact aEa),uQ,(Wd.Iy (gs:=[.own 42 6 (.slice (aD wB 0) 4 I) 4 ((ws).flatMap BX.cells)]) anu)⟩
   refine zN 9 ?_;refine vv (v:=D ((M+1:Nat):Int)) iI ?_;refine zN 2 ?_;have Ja:=ES.aO [0];have XD:=Wd.dR (m:=mm) (m':=mm) (H:=hwl ws++H) (H':=hwl ws++H) (fs:=(.own 42 6 (.slice (aD wB 0) 4 I) 4 ((ws).flatMap BX.cells))::fs) (X':=X3) (z':=z3) (Ls:=[]) (fA:=R3.fA) (fc:=R3.fc) (fx:=R3.fx) (sA:=R3.sA) (sc:=R3.sc) (tA:=R3.tA) (tc:=R3.tc) (rr:=(.own 42 6 (.slice (aD wB 0) 4 I) 4 ((ws).flatMap BX.cells))::rr3) hkn iH (by rw[<-Jw];rfl) G3 hn Ja Ud.more (λu hu=>.inl hu) (aB Ue).symm G3.Ms.symm mI;have hro:¬((bD X.data X.MC) M).Gq=1:=ahy (hwo M J) hxs ‹_›;refine bC (M+1,mm) ?_ Av (by first|omega|(dsimp only;omega));exact⟨XD,(by dsimp only;rw[Xz,nN J];exact Y6 hro),uQ,XA,(by dsimp only;rw[Ue];exact Z),(by dsimp only;rw[Ue];exact λj h1 h2=>XB j Y h2),XC,uQ,(Wd.Iy (gs:=[.own 42 6 (.slice (aD wB 0) 4 I) 4 ((ws).flatMap BX.cells)]) XD)⟩
  refine zN 10 ?_;have zu:m.start n=mm:=by rw[adE hX ‹_› (by rw[hP1];exact hwA),<-hm1,Xz,drop_eq_nil_of_le (by rw[length_range];omega)];rfl
  rw[zu];exact⟨E,ahB (Wd.less (gs:=[.own 42 6 (.slice (aD wB 0) 4 I) 4 ((ws).flatMap BX.cells)]) aei)⟩
 refine bI (l':=[(0,pV kw 0),(1,pV kn 0),(18,.bool true)]) FH (mo E (oH (iB (dW (rs:=[]) (vs:=[]) E trivial ?_))));have zu:m.start n=m:=ahA (by rw[hX];assumption);rw[zu];exact⟨E,Wd.dR (X':=X) (z':=z) (Ls:=[]) (fA:=R.fA) (fc:=R.fc) (fx:=R.fx) (sA:=R.sA) (sc:=R.sc) (tA:=R.tA) (tc:=R.tc) hkn iH hrr G hn S NG.more (λu hu=>.inl hu) (aB hX).symm G.Ms.symm mI⟩
section
variable {X:Nd}{m:Cl}{n k q:Nat}{p:bS}
def G8.lg(h:G8 X):∀q,q<4->au (X.bs q)=0:=by
 rcases h with⟨_,rs,us,h⟩|⟨_,rs,t,f,h⟩
 ·exact h.lg
 exact h.bz
def G8.tp(h:G8 X):∃rs t f,X.data=bK rs++t/\(Nb t).2=0/\iN rs f/\(∀q,q<4->au (f q)=0)/\X.data.length<=100000/\0<=X.MC/\X.MC<=X.data.length:=by
 rcases h with⟨_,rs,us,h⟩|⟨_,rs,t,f,h⟩
 ·have J:=h.data;have Z:=congrArg length J;rw[lY,length_append]at Z;have hs:=h.MC
  cases M:X.Mw with
  |none=>
   have hu:=h.rA M;refine⟨rs,[],_,by rw[J,hu,append_nil,append_nil],x9,h.tape,λq I=>(Wj h.lg I).1,h.len,by omega,by omega⟩
  |some p=>
   obtain⟨h1,h2,h3⟩:=h.F6 p M;obtain⟨O,h5⟩:=iR h.tape h.lg h2 h3;rw[<-h1]at O;refine⟨rs++us,[],_,by rw[J,append_nil],x9,O,λq I=>?_,h.len,by omega,by omega⟩;refine uS ?_;by_cases e:q=p.q
   ·rw[e,Ee];exact h5
   rw[Kg e];exact h.lg q I
 exact⟨rs,t,f,h.data,h.auD,h.tape,λq I=>(h.lg q I).1,h.len,h.MC.1,h.MC.2⟩
def G8.may(h:G8 X):dx X.data X.MC=true:=by
 obtain⟨rs,t,f,_,_,_,_,h1,I,J⟩:=h.tp;simp only[dx,Bool.and_eq_true,decide_eq_true_eq];exact⟨⟨h1,I⟩,J⟩
def G8.aEb(h:G8 X){rs:List cO}{d:List UInt8}(hw:fD X.data X.MC rs=some d):dx d X.MC=true:=by
 obtain⟨_,_,_,_,_,_,_,h1,O,Z⟩:=h.tp;obtain⟨I,_,J⟩:=qC hw;have:=J h1;have M:=congrArg length I;rw[length_append]at M;simp only[dx,Bool.and_eq_true,decide_eq_true_eq];omega
def G8.fit(h:G8 X)(J:X.Mw=some p):p.fit/\dx X.data X.MC=true:=by
 refine⟨?_,h.may⟩
 rcases h with⟨_,rs,us,h⟩|⟨_,rs,t,f,h⟩
 ·obtain⟨h1,M,I⟩:=h.F6 p J;obtain⟨Z,O⟩:=iR h.tape h.lg M I
  cases p with
  |serve q Gs op num a=>exact⟨I,kH M.2.2.2⟩
  |Ns q b=>exact I
  |QU q b last=>exact I
  |fG q b at_=>exact⟨I,O⟩
  |Ni q b=>exact I
 rw[h.lu]at J;cases J
def Qs{s:Int}{f:Nat->aU}:∀(I:List Nat) {d d':List UInt8},eG s f I d=some d'->d.length<=d'.length/\(d.length<=100000->d'.length<=100000)
 |[],d,d',h=>by cases h;exact⟨Nat.le_refl _,id⟩
 |q::r,d,d',h=>by
  rw[eG]at h
  split at h
  ·exact Qs r h
  split at h
  ·cases h
  split at h
  ·cases h
  rename_i d2 hw
  obtain⟨J,_,M⟩:=qC hw;obtain⟨h1,O⟩:=Qs r h;rw[J,length_append]at h1;exact⟨by omega,λZ=>O (M Z)⟩
def aas:∀(rs:List cO),6*rs.length<=(bK rs).length
 |[]=>by simp[bK]
 |r::rs=>by
  have h1:=(AQ r).1;have h:=aas rs;have e:bK (r::rs)=mJ r++bK rs:=by simp[bK,flatMap_cons]
  rw[e,length_append,length_cons];omega
def G8.RU(h:G8 X):Dn X.data X.MC=some (vB (bD X.data X.MC))/\(∀q,q<4->au (bD X.data X.MC q)=0)/\(uP (jC X.data X.MC).1 (jC X.data X.MC).2.1).1.length*80<=reachBytes/\
  (∀d,eG (jC X.data X.MC).2.1 (bD X.data X.MC) [0,1,2,3] (jC X.data X.MC).1=some d->dx d (jC X.data X.MC).2.1=true):=by
 obtain⟨rs,t,f,J,ht,M,hb,h1,h2,h3⟩:=h.tp;obtain⟨O,r2,Z⟩:=M.read J ht h1 h2 h3;have hl:(bK rs).length<=X.data.length:=by rw[J,length_append];omega
 have hg:=aas rs;refine⟨by rw[r2,AV λq I=>(Z q I).symm],λq I=>by rw[Z q I];exact hb q I,?_,λd hw=>?_⟩
 ·rw[O];unfold uP;rw[if_pos (by simp[dx];omega)];have:=yY (t:=[]) M.1 x9;rw[append_nil]at this;dsimp only;rw[this];unfold reachBytes;dsimp only;omega
 rw[O]at hw⊢;obtain⟨g1,g2⟩:=Qs _ hw;dsimp only at g1 g2 hw⊢;have g3:=g2 Y;simp only[dx,Bool.and_eq_true,decide_eq_true_eq];omega
def jO.tgt{l:bH}(h:jO l):∃j,j<5/\(l.tg= -1\/l.tg= -2\/l.tg=((j:Nat):Int)):=by
 obtain⟨_,_,h1|h1|h1,_⟩:=h
 ·exact⟨0,by omega,.inl h1⟩
 ·exact⟨0,by omega,.inr (.inl h1.1)⟩
 exact⟨l.tg.toNat,by omega,.inr (.inr Y)⟩
def cu.fl{T S dS K:Nat}(h:cu m T S dS K):m.Ms.length<=T:=by
 have:=OY m (n:=0) Y;have:=h.room;omega
def cu.il{T S dS K:Nat}(h:cu m T S dS K)(hn:n<5):(m.ah n).Md.length<=T:=by
 have:=OY m hn;have:=h.room;omega
def cu.fi{T S dS K:Nat}(h:cu m T S dS K)(hn:n<5):m.Ms.length+(m.ah n).Md.length<=T:=by
 have:=OY m hn;have:=h.room;omega
end
def Rh(m:Cl):Prop:= ∀a b,0<=(m.MG a b).2
section
variable {m m':Cl}{n q:Nat}{l:bH}
def Rh.of(h:Rh m)(e:m'.MG=m.MG):Rh m':=λa b=>by rw[e];exact h a b
def Rh.QL{e:Ev}{a:iW}{u:Int}(h:Rh m):Rh (m.QL n q e a u):=Jv h
def Rh.done{op:Ev}{u:Int}{a:iW}(h:Rh m):Rh (m.done n q op u a):=by
 unfold Cl.done
 split
 ·exact(h.QL (n:=n) (q:=q) (e:=op) (a:=a) (u:=u)).of E
 exact h.of E
def Rh.part{a:Int}(h:Rh m):Rh (m.part n q a):=by
 unfold Cl.part
 split
 ·exact h
 exact h.of E
def Rh.serve(h:Rh m):Rh (m.serve n l):=by
 unfold Cl.serve
 split
 ·exact h.done
 split
 ·exact h.done
 exact h.of E
def Rh.Ng(h:Rh m):Rh (m.Ng n l):=by
 unfold Cl.Ng
 split
 ·exact h.serve
 split
 ·unfold Cl.Qz
  split
  ·exact h
  split
  ·exact h.of E
  split
  ·exact h
  exact h.of E
 split
 ·unfold Cl.QV
  split
  ·exact h
  split
  ·exact h
  split
  ·exact Rh.part (h.of E)
  split
  ·exact h
  exact h.of E
 split
 ·unfold Cl.QU
  split
  ·exact h
  split
  ·exact h.of E
  split
  ·exact h
  split
  ·exact h
  exact h.of E
 unfold Cl.Q9
 split
 ·exact h.of E
 split
 ·exact h.of E
 exact h.of E
def Rh.drain:∀(ls:List bH) {m:Cl},Rh m->Rh (Cl.drain n ls m)
 |[],m,h=>h
 |l::r,m,h=>by
  rw[Cl.drain];have h1:Rh ((m.put n {m.ah n with Md:=r}).Ng n l):=Rh.Ng (h.of E)
  split
  ·exact Rh.drain r h1
  exact h1
def Rh.yc{p:bS}(h:Rh m):Rh (m.yc n p):=by
 cases p with
 |serve q Gs op num a=>exact Rh.done (h.of E)
 |Ns q b=>exact h.of E
 |QU q b last=>
  unfold Cl.yc;dsimp only
  split
  ·exact Rh.QL (h.of E)
  exact h.of E
 |fG q b a=>exact Rh.part (h.of E)
 |Ni q b=>exact h.of E
def Rh.step(h:Rh m):Rh (m.step n):=by
 unfold Cl.step
 split
 ·exact h
 split
 ·exact Rh.yc (h.of E)
 split
 ·exact(h.drain _).of E
 exact h.drain _
def Rh.Nk(h:Rh m):Rh (m.Nk l):=by
 unfold Cl.Nk
 split
 ·exact h.of E
 split
 ·split<;>exact h.of E
 split
 ·exact h.of E
 exact h
def Rh.comes:∀(ls:List bH) {m:Cl},Rh m->Rh (ls.foldl Cl.Nk m)
 |[],_,h=>h
 |_::ls,_,h=>Rh.comes ls h.Nk
def Rh.recover(h:Rh m):Rh (m.recover n q):=(Gj m n q h).2.2
def Rh.QG{bs:Nat->aU}:∀(I:List Nat) {m:Cl},Rh m->Rh (Cl.QG n bs I m)
 |[],_,h=>h
 |q::r,m,h=>by
  rw[Cl.QG]
  split
  ·exact Rh.QG r h
  exact Rh.QG r (Rh.QL ((h.recover (n:=n) (q:=q)).of E))
def Rh.QT{a:Ac}(h:Rh m):Rh (m.QT a):=by
 unfold Cl.QT
 split
 ·unfold Cl.make
  split
  ·exact h
  split
  ·exact h
  split
  ·exact h
  exact Jv (l:=[]) h
 split
 ·exact h.of E
 split
 ·exact h.step
 split
 ·unfold Cl.pick
  split
  ·exact h
  dsimp only
  split
  ·refine Rh.Nk ?_
   split
   ·exact h
   exact h.of E
  split
  ·exact h
  exact h.of E
 split
 ·exact Rh.comes _ (h.of E)
 split
 ·unfold Cl.Q0
  split
  ·exact h.of E
  exact h
 split
 ·unfold Cl.start
  split
  ·exact h
  split
  ·exact h
  exact Rh.QG _ (h.of E)
 unfold Cl.move
 split
 ·exact h
 split
 ·exact h.of E
 exact h
end
section
variable {m mm:Cl}{n q k:Nat}{a:Ac}{PW:Pl×Int}{T S dS K:Nat}{x:bH}{fl:List bH}
def alI(h:aJ m.off q=PW):∃nn,nn<5/\(PW.2=0->PW.1.node=((nn:Nat):Int)):=by
 subst h;by_cases c:(aJ m.off q).2=0
 ·obtain⟨h1,I,_⟩:=nK (λh=>h c);exact⟨_,h1,λ_=>by omega⟩
 exact⟨0,by omega,λh=>absurd h c⟩
def ahC(h:cu m T S dS K):cu {m with Ms:=[]} (T+0) S (dS+0) K:=by
 refine⟨h.iK,λl I=>(by simp at I),h.iP,?_,h.aP,h.bL,h.turn,h.calls⟩;have:=h.room;unfold Cl.tot at this⊢;dsimp only[length_nil];omega
def ahD(h:fl[k]? =some x):(fl.drop k).foldl Cl.Nk mm=(fl.drop (k+1)).foldl Cl.Nk (mm.Nk x):=by rw[Rc h,foldl_cons]
def ahE(h:a.kd=1)(hn:a.nd=(n:Int))(I:a.qu=(q:Int)):m.QT a=m.make n q:=by
 unfold Cl.QT;rw[if_pos h,hn,I,Int.toNat_natCast,Int.toNat_natCast]
def ahF(h:a.kd=2)(I:a.qu=(q:Int)):m.QT a={m with Ms:=m.Ms++[vY a.nd q a.op m.calls],calls:=m.calls+1}:=by
 unfold Cl.QT;rw[if_neg Y,if_pos h,I,Int.toNat_natCast]
def ahG(h:a.kd=3)(hn:a.nd=(n:Int)):m.QT a=m.step n:=by
 unfold Cl.QT;rw[if_neg Y,if_neg Y,if_pos h,hn,Int.toNat_natCast]
def KP(h:a.kd=4\/a.kd=5\/a.kd=6):m.QT a=m.pick a.at_.toNat (decide (a.kd≠5)) (decide (a.kd=6)):=by
 unfold Cl.QT;rw[if_neg Y,if_neg Y,if_neg Y,if_pos h]
def alJ(h:a.kd=4):m.QT a=m.pick a.at_.toNat true false:=by rw[KP (.inl h),h];rfl
def alK(h:a.kd=5):m.QT a=m.pick a.at_.toNat false false:=by rw[KP (.inr (.inl h)),h];rfl
def alL(h:a.kd=6):m.QT a=m.pick a.at_.toNat true true:=by rw[KP (.inr (.inr h)),h];rfl
def alM(h:a.kd=7):m.QT a=m.all:=by
 unfold Cl.QT;rw[if_neg Y,if_neg Y,if_neg Y,if_neg Y,if_pos h]
def Pp(h:a.kd=8)(hn:a.nd=(n:Int)):m.QT a=m.Q0 n a.kp:=by
 unfold Cl.QT;rw[if_neg Y,if_neg Y,if_neg Y,if_neg Y,if_neg Y,if_pos h,hn,Int.toNat_natCast]
def adG(h:a.kd=9)(hn:a.nd=(n:Int)):m.QT a=m.start n:=by
 unfold Cl.QT;rw[if_neg Y,if_neg Y,if_neg Y,if_neg Y,if_neg Y,if_neg Y,if_pos h,hn,Int.toNat_natCast]
def adH(h:a.kd≠1)(I:a.kd≠2)(J:a.kd≠3)(h4:a.kd≠4)(h5:a.kd≠5)(h6:a.kd≠6)(M:a.kd≠7)(O:a.kd≠8)(Z:a.kd≠9)(hq:a.qu=(q:Int)):m.QT a=m.move q a.nd:=by
 unfold Cl.QT;rw[if_neg h,if_neg I,if_neg J,if_neg Y,if_neg M,if_neg O,if_neg Z,hq,Int.toNat_natCast]
def ahH(h:(m.ah n).up=true){kp:Int}:m.Q0 n kp=m.put n ((m.ah n).Nn kp):=if_pos h
def adI(h:(m.ah n).up=false){kp:Int}:m.Q0 n kp=m:=by
 unfold Cl.Q0;rw[if_neg (by rw[h];simp)]
end
def ahI{K:CK}{B n kn kw:Nat}{w0 w:World}{fs:List J8}{m:Cl}{H:List LX}{q k:Nat}{a:Ac}(hn:n<5)(hq:q<4)(hnd:a.nd=(n:Int))(hqd:a.qu=(q:Int))(J:K.nb n=kn)(M:K.wb=kw)(O:Uk B w0)(HW:Wd K B w0 w fs m H)(I:cu m (4*k) (500000*k) (500000*k) k)(hk:k<=100000)(ha:wX a)(hsh:Rh m):
 Calls prog 25 #[pV kw 0,.agg (aR a)] w (λe w'=>e=.returned (.tuple #[])/\Wd K B w0 w' fs (m.QT a) H):=by
 obtain⟨R,G,S0⟩:=HW.open hn;have hfl:R.fx.length=m.Ms.length:=by rw[<-G.Ms,length_map]
 have NG:=G.iK n hn;obtain⟨X,hX⟩:∃X,m.ah n=X:=⟨_,E⟩;obtain⟨z,hz⟩:∃z,R.nx n=z:=⟨_,E⟩;rw[hX,hz]at S0 NG;have hL:∀f∈R.L,f∈gG K R m fs n:=λf h=>mem_append_right _ (mem_append_right _ h);obtain⟨rr,Z⟩:∃r,gG K R m fs n=r:=⟨_,E⟩;rw[Z]at S0 hL;have S:St B w0 w ((bN kn n X.up z.tA X.data z.tc X.MC z.bb X.Nh X.Nf z.iA z.ix z.ic z.pv X.turn)::(oB z.bb z.bx)::(fL z.iA z.ix z.ic)::(bW kw (.slice R.nA 5 R.nc) m.off R.fA R.fx R.fc m.MG R.sA m.aP R.sc R.tA m.bL R.tc m.calls)::(oL R.fA R.fx R.fc)::(oS R.sA m.aP R.sc)::(oT R.tA m.bL R.tc)::rr):=by subst J;subst M;exact S0
 clear S0 HW;have hlen:=(S.own 1 E).1;rw[iL (sz:=6) (λ_=>E)]at hlen;obtain⟨ab,ao,qP⟩:=Cr G.arr S (M9 7 E hL);have harr:=G.arr;rw[qP]at S harr;have hcl:=I.calls;have aLH:=I.fl;have ao5:a.at_=(a.at_.toNat:Int):=by have:=ha.at_;omega
 refine gP 144 func25 ?_;refine cw [0,1] ?_;refine zN 2 ?_;refine iU S ?_;intro b1 w2 S3;refine zN 11 ?_;by_cases h4:a.kd=1
 ·refine zN 5 ?_;have S5:St B w0 w2 [.Mg b1 (aR a) 51]:=S3.sub (Sublist.cons_cons _ (nil_sublist _));have WI:=S3.drew;have S6:=S5.drew;refine aK 12 S6 [] ?_;refine aL 5 ?_;refine ak (v:=D (n:Int)) 6 E S6 (λ_ aoL=>(Ct hnd (aj E E (aG (St.cl 0 aoL E E))))) ?_;refine dG ?_;refine ak (v:=D (q:Int)) 10 E S6 (λ_ anV=>(Ct hqd (aj E E (aG (St.cl 0 anV E E))))) ?_;refine bg 4 ?_;refine ji (i:=4) E E (v:=.slice (aD ab ao) 5 R.nc) (wn E) E E (aj E E (aG (St.cl 4 WI E Aq))) ?_;refine dG ?_;refine ak 7 E S6 (λ_ _=>ko n) ?_;refine bg 8 ?_;refine ji (i:=8) E E (v:=pV kn 0) (wn E) E E (aj E E (aG (J▸vV harr hn WI (M9 8 E hL)))) ?_;refine dG ?_;refine bg 11 ?_;have o8:=WI.eH [7,7,7,7,7,7,7];have qO:=o8;rw[<-qP]at qO;have aoQ:=Wd.dR (m:=m) (m':=m) (H:=H) (H':=H) (fs:=(.Mg b1 (aR a) 51)::fs) (X':=X) (z':=z) (Ls:=[]) (fA:=R.fA) (fc:=R.fc) (fx:=R.fx) (sA:=R.sA) (sc:=R.sc) (tA:=R.tA) (tc:=R.tc) (rr:=(.Mg b1 (aR a) 51)::rr) J M (by rw[<-Z]<;>rfl) G hn qO NG.more (λu O=>.inl O) (aB hX).symm G.Ms.symm mI;refine kE 11 E eQ (Y4 hn J M O (by have:=I.fl;omega) (by have:=I.aP;omega) hq aoQ (I.iK n hn).lg (λrs d h=>(I.iK n hn).aEb h)) ?_;rintro _ ZN ⟨rfl,avo⟩;refine⟨_,E,?_⟩;have vC:=Wd.Iy (gs:=[.Mg b1 (aR a) 51]) avo;refine aL 2 ?_;refine bX (l':=[]) trivial (iJ (oV ?_));rw[ahE ‹_› hnd hqd];exact⟨E,(Wd.less (gs:=[.Mg b1 (aR a) 51]) avo)⟩
 refine zN 7 ?_;by_cases h22:a.kd=2
 ·refine zN 6 ?_;have tJ:=S3.eH [5,5];have kF:=tJ.drew;refine aK 14 kF [1,0] ?_;refine aL 4 ?_;refine ak (v:=D (q:Int)) 4 E (kF.qp [1,0]) (λ_ ado=>(Ct hqd (aj E E (aG (St.cl 0 ado E E))))) ?_;refine dG ?_;refine ak (v:=.agg #[D a.ek,D a.ep,D a.ei,D a.eb,D a.eh,D a.en]) 6 E (kF.qp [1,0]) (λ_ abr=>(aj E E (dP (cs:=[D a.ek,D a.ep,D a.ei,D a.eb,D a.eh,D a.en]) (St.rg 0 abr E (mE (x:=5) (m:=6) E))))) ?_;refine aL 4 ?_;refine bg 11 ?_;refine ji (i:=11) E E (v:=D (m.calls:Int)) (wn E) E E (aj E E (aG (St.cl 0 kF E am1))) ?_;refine dG ?_;refine ak (v:=.agg #[D 0,D (-1),D a.nd,D (q:Int),D 0,D 0,D 0,D a.ek,D a.ep,D a.ei,D a.eb,D a.eh,D a.en,.slice none 0 0,.bool false,D (m.calls:Int),D 0,D 0,D 0,D 0,D 0,D 0,D 0]) 12 E (kF.qp [1,0]) (λ_ _=>gH) ?_;refine bg 13 ?_;refine kE 13 E eQ (gX (x:=⟨vY a.nd q a.op m.calls,none,0⟩) kF (by have:=I.fl;omega)) ?_;rintro _ w41 ⟨rfl,A37,c38,aus,aoz,Eo⟩;refine⟨_,E,?_⟩;refine aL 2 ?_;refine zN 6 ?_;refine vv (aj E E (aG (St.cl 0 Eo E am1))) ?_;refine vv (v:=D ((m.calls+1:Nat):Int)) iI ?_;refine zN 3 ?_;refine jH 0 Eo kQ ?_ (hs:=by exact awJ);intro w43 FQ;refine zQ ?_;refine bX (l':=[]) trivial (iJ (oV ?_));rw[ahF ‹_› hqd];subst aoz;have pQ:=FQ.aO [2];have xk:=pQ.eH [6,6,3,3,6,6,6];rw[<-qP]at xk;exact⟨E,Wd.dR (X':=X) (z':=z) (Ls:=[]) (fA:=A37) (fc:=c38) (fx:=R.fx++[(⟨vY a.nd q a.op m.calls,none,0⟩:LX)]) (sA:=R.sA) (sc:=R.sc) (tA:=R.tA) (tc:=R.tc) J M Z G hn xk NG.more (pE (je E)) (aB hX).symm (by rw[map_append,G.Ms];rfl) mI⟩
 refine zN 7 ?_;by_cases h47:a.kd=3
 ·refine zN 5 ?_;have AA:St B w0 w2 [.Mg b1 (aR a) 51]:=S3.sub (Sublist.cons_cons _ (nil_sublist _));have WI:=S3.drew;have xX:=AA.drew;refine aK 10 xX [] ?_;refine aL 5 ?_;refine ak (v:=D (n:Int)) 6 E xX (λ_ aoB=>(Ct hnd (aj E E (aG (St.cl 0 aoB E E))))) ?_;refine bg 4 ?_;refine ji (i:=4) E E (v:=.slice (aD ab ao) 5 R.nc) (wn E) E E (aj E E (aG (St.cl 4 WI E Aq))) ?_;refine dG ?_;refine ak 7 E xX (λ_ _=>ko n) ?_;refine bg 8 ?_;refine ji (i:=8) E E (v:=pV kn 0) (wn E) E E (aj E E (aG (J▸vV harr hn WI (M9 8 E hL)))) ?_;refine dG ?_;refine bg 9 ?_;have vQ:=WI.eH [7,7,7,7,7,7,7];have Ca:=vQ;rw[<-qP]at Ca;have aEc:=Wd.dR (m:=m) (m':=m) (H:=H) (H':=H) (fs:=(.Mg b1 (aR a) 51)::fs) (X':=X) (z':=z) (Ls:=[]) (fA:=R.fA) (fc:=R.fc) (fx:=R.fx) (sA:=R.sA) (sc:=R.sc) (tA:=R.tA) (tc:=R.tc) (rr:=(.Mg b1 (aR a) 51)::rr) J M (by rw[<-Z]<;>rfl) G hn Ca NG.more (λu O=>.inl O) (aB hX).symm G.Ms.symm mI;refine kE 9 E eQ (Y3 hn J M O (by have:=I.fi hn;omega) (by have:=I.aP;have:=I.il hn;omega) (by have:=I.turn n hn;omega) aEc (I.iK n hn).lg (λl hl=>lF (I.iP n hn l hl)) (λp h=>(I.iK n hn).fit h)) ?_;rintro _ w61 ⟨rfl,avp⟩;refine⟨_,E,?_⟩;have JO:=Wd.Iy (gs:=[.Mg b1 (aR a) 51]) avp;refine aL 2 ?_;refine bX (l':=[]) trivial (iJ (oV ?_));rw[ahG ‹_› hnd];exact⟨E,(Wd.less (gs:=[.Mg b1 (aR a) 51]) avp)⟩
 refine zN 8 ?_;by_cases h63:a.kd=4
 ·refine zN 11 ?_;refine vv (v:=D (a.at_.toNat:Int)) (Ct ao5 (aj E E (aG (St.cl 0 S3 E E)))) ?_;refine zN 6 ?_;have S64:=S3.eH [7,7,7,7,7,7,7];have Ih:=S64;rw[<-qP]at Ih;have aEd:=Wd.dR (m:=m) (m':=m) (H:=H) (H':=H) (fs:=(.Mg b1 (aR a) 51)::fs) (X':=X) (z':=z) (Ls:=[]) (fA:=R.fA) (fc:=R.fc) (fx:=R.fx) (sA:=R.sA) (sc:=R.sc) (tA:=R.tA) (tc:=R.tc) (rr:=(.Mg b1 (aR a) 51)::rr) J M (by rw[<-Z]<;>rfl) G hn Ih NG.more (λu O=>.inl O) (aB hX).symm G.Ms.symm mI;refine dJ eQ (D9 hn J M O (by have:=I.fl;omega) (by have:=I.bL;omega) (λj hj=>by have:=I.il hj;omega) aEd (λl hl=>(I.mX l hl).tgt)) ?_;rintro _ w68 ⟨rfl,avq⟩;refine⟨_,E,?_⟩;have Aw:=Wd.Iy (gs:=[.Mg b1 (aR a) 51]) avq;refine zQ ?_;refine bX (l':=[]) trivial (iJ (oV ?_));rw[alJ ‹_›];exact⟨E,(Wd.less (gs:=[.Mg b1 (aR a) 51]) avq)⟩
 refine zN 7 ?_;by_cases h70:a.kd=5
 ·refine zN 11 ?_;refine vv (v:=D (a.at_.toNat:Int)) (Ct ao5 (aj E E (aG (St.cl 0 S3 E E)))) ?_;refine zN 6 ?_;have rX:=S3.eH [7,7,7,7,7,7,7];have uq:=rX;rw[<-qP]at uq;have aEe:=Wd.dR (m:=m) (m':=m) (H:=H) (H':=H) (fs:=(.Mg b1 (aR a) 51)::fs) (X':=X) (z':=z) (Ls:=[]) (fA:=R.fA) (fc:=R.fc) (fx:=R.fx) (sA:=R.sA) (sc:=R.sc) (tA:=R.tA) (tc:=R.tc) (rr:=(.Mg b1 (aR a) 51)::rr) J M (by rw[<-Z]<;>rfl) G hn uq NG.more (λu O=>.inl O) (aB hX).symm G.Ms.symm mI;refine dJ eQ (D9 hn J M O (by have:=I.fl;omega) (by have:=I.bL;omega) (λj hj=>by have:=I.il hj;omega) aEe (λl hl=>(I.mX l hl).tgt)) ?_;rintro _ w75 ⟨rfl,avr⟩;refine⟨_,E,?_⟩;have M5:=Wd.Iy (gs:=[.Mg b1 (aR a) 51]) avr;refine zQ ?_;refine bX (l':=[]) trivial (iJ (oV ?_));rw[alK ‹_›];exact⟨E,(Wd.less (gs:=[.Mg b1 (aR a) 51]) avr)⟩
 refine zN 6 ?_;by_cases h77:a.kd=6
 ·refine zN 8 ?_;refine vv (v:=D (a.at_.toNat:Int)) (Ct ao5 (aj E E (aG (St.cl 0 S3 E E)))) ?_;refine zN 6 ?_;have JU:=S3.eH [7,7,7,7,7,7,7];have Cb:=JU;rw[<-qP]at Cb;have aEf:=Wd.dR (m:=m) (m':=m) (H:=H) (H':=H) (fs:=(.Mg b1 (aR a) 51)::fs) (X':=X) (z':=z) (Ls:=[]) (fA:=R.fA) (fc:=R.fc) (fx:=R.fx) (sA:=R.sA) (sc:=R.sc) (tA:=R.tA) (tc:=R.tc) (rr:=(.Mg b1 (aR a) 51)::rr) J M (by rw[<-Z]<;>rfl) G hn Cb NG.more (λu O=>.inl O) (aB hX).symm G.Ms.symm mI;refine dJ eQ (D9 hn J M O (by have:=I.fl;omega) (by have:=I.bL;omega) (λj hj=>by have:=I.il hj;omega) aEf (λl hl=>(I.mX l hl).tgt)) ?_;rintro _ w82 ⟨rfl,avs⟩;refine⟨_,E,?_⟩;have Dz:=Wd.Iy (gs:=[.Mg b1 (aR a) 51]) avs;refine zQ ?_;refine bX (l':=[]) trivial (iJ (oV ?_));rw[alL ‹_›];exact⟨E,(Wd.less (gs:=[.Mg b1 (aR a) 51]) avs)⟩
 refine zN 7 ?_;by_cases h84:a.kd=7
 ·refine zN 10 ?_;refine vv (aj E E (aG (St.cl 4 S3 E Sr))) ?_;refine zN 8 ?_;refine jH 4 S3 kQ ?_ (hs:=by exact aox);intro w85 Cg;refine zN 10 ?_;have GK:=Cg.aO [0];have JQ:=GK.nil 119 23;have JM:=((((((((JQ.bring 5 E).bring 7 E).bring 7 E).bring 3 E).bring 7 E).bring 7 E).bring 7 E).bring 7 E);rw[<-qP]at JM;obtain⟨m1,hm1⟩:∃k,k=({m with Ms:=[]}:Cl):=⟨_,E⟩;have HW1:Wd K B w0 w85 ((oL R.fA R.fx R.fc)::fs) m1 (R.fx++H):=by
   rw[hm1];exact Wd.dR (m:=m) (H:=H) (fs:=(oL R.fA R.fx R.fc)::fs) (X':=X) (z':=z) (Ls:=[]) (fA:=none) (fc:=0) (fx:=[]) (sA:=R.sA) (sc:=R.sc) (tA:=R.tA) (tc:=R.tc) (rr:=(oL R.fA R.fx R.fc)::rr) J M (by rw[<-Z];rfl) G hn JM NG.more (λu O=>by simp at O) (aB hX).symm E (λu O=>(mem_append.1 O).elim (λh=>.inr ((G.flo u h).mono λf hf=>mem_append_left _ hf)) .inl)
  have hB0:=ahC I;rw[<-hm1]at hB0;refine fJ (X:=Nat×Cl) (λxv=>[(0,pV kw 0),(90,.slice R.fA R.fx.length R.fc),(91,D (R.fx.length:Int)),(92,D (xv.1:Int))]) (λxv wr=>(Wd K B w0 wr ((oL R.fA R.fx R.fc)::fs) xv.2 (R.fx.drop xv.1++H))/\(m.Ms.foldl Cl.Nk m1=(m.Ms.drop xv.1).foldl Cl.Nk xv.2)/\(xv.1<=R.fx.length)/\(cu xv.2 (4*k+xv.1) (500000*k) (500000*k+xv.1) k)/\St B w0 wr [.own 119 23 (.slice R.fA R.fx.length R.fc) R.fx.length ((R.fx).flatMap LX.cells)]) (λxv=>R.fx.length-xv.1) (0,m1) ?_ ?_ ?_
  ·exact⟨HW1,E,zero_le _,hB0,Wd.Iy (gs:=[.own 119 23 (.slice R.fA R.fx.length R.fc) R.fx.length ((R.fx).flatMap LX.cells)]) HW1⟩
  ·exact jX
  rintro⟨k2,mm⟩ w90 ⟨ao6,ao7,aEg,adJ,QX⟩
  try dsimp only at ao6 ao7 aEg adJ QX
  refine bI (l':=[(0,pV kw 0),(90,.slice R.fA R.fx.length R.fc),(91,D (R.fx.length:Int)),(92,D (k2:Int))]) jX ?_;obtain⟨R3,G3,WH⟩:=ao6.open hn;have Ud:=G3.iK n hn;obtain⟨X3,Ue⟩:∃X,mm.ah n=X:=⟨_,E⟩;obtain⟨z3,hz3⟩:∃z,R3.nx n=z:=⟨_,E⟩;rw[Ue,hz3]at WH Ud;obtain⟨rr3,Jw⟩:∃r,gG K R3 mm fs n=r:=⟨_,E⟩;have DK:St B w0 w90 ((bN kn n X3.up z3.tA X3.data z3.tc X3.MC z3.bb X3.Nh X3.Nf z3.iA z3.ix z3.ic z3.pv X3.turn)::(oB z3.bb z3.bx)::(fL z3.iA z3.ix z3.ic)::(bW kw (.slice R3.nA 5 R3.nc) mm.off R3.fA R3.fx R3.fc mm.MG R3.sA mm.aP R3.sc R3.tA mm.bL R3.tc mm.calls)::(oL R3.fA R3.fx R3.fc)::(oS R3.sA mm.aP R3.sc)::(oT R3.tA mm.bL R3.tc)::(oL R.fA R.fx R.fc)::rr3):=by rw[<-Jw];subst J;subst M;exact WH
  clear WH;refine zN 2 ?_;by_cases h97:(k2:Int)< (R.fx.length:Int)
  ·refine zN 10 ?_;obtain⟨x,hx⟩:∃x,R.fx[k2]? =some x:=⟨_,getElem?_eq_getElem Y⟩;have hxf:m.Ms[k2]? =some x.l:=by rw[<-G.Ms,getElem?_map,hx];rfl
   have hxb:=I.mX x.l (mem_of_getElem? hxf);refine zQ ?_;obtain⟨fb,fo,hfA⟩:=rd_some (St.Rn 7 DK E) Y;refine vv (v:=pV fb (fo+k2*23)) (aM E E E (fq k2 hfA underlying91 kQ Y Y)) ?_;refine vv (v:=.agg (LX.row x)) (aj E E (dP (cs:=LX.cells x) (λj u O=>by rw[Nat.add_assoc];exact Ju (St.Rn 7 DK E) hfA (bE (enc:=LX.cells) (sz:=23) (k:=k2) (λ_=>E) hx O)))) ?_;refine gD DK ad8 ?_;intro b98 w99 wM;refine stA 0 wM kQ ?_ (h1:=Ew _);intro atc tO;refine zN 5 ?_;have vN:=tO.aO [0];have axD:=Wd.dR (m:=mm) (m':=mm) (H:=R.fx.drop k2++H) (H':=x::(R.fx.drop (k2+1)++H)) (fs:=(oL R.fA R.fx R.fc)::fs) (X':=X3) (z':=z3) (Ls:=[]) (fA:=R3.fA) (fc:=R3.fc) (fx:=R3.fx) (sA:=R3.sA) (sc:=R3.sc) (tA:=R3.tA) (tc:=R3.tc) (rr:=(oL R.fA R.fx R.fc)::rr3) J M (by rw[<-Jw];rfl) G3 hn ((((((((vN.bring 7 E).bring 7 E).bring 7 E).bring 7 E).bring 7 E).bring 7 E).bring 7 E).bring 7 E) Ud.more (λu O=>.inl O) (aB Ue).symm G3.Ms.symm (by rw[Rc hx];exact mI);obtain⟨jj,hjj,htt⟩:=hxb.tgt;refine dJ eQ (D8 (m:=mm) (x:=x) hjj E M O (by have:=(adJ).fl;omega) (by have:=(adJ).bL;omega) (by have:=(adJ).il hjj;omega) axD htt) ?_;rintro _ abT ⟨rfl,aej⟩;refine⟨_,E,?_⟩;obtain⟨mc,hmc⟩:∃k,k=mm.Nk x.l:=⟨_,E⟩;have EX:=Wd.Iy (gs:=[.own 119 23 (.slice R.fA R.fx.length R.fc) R.fx.length ((R.fx).flatMap LX.cells)]) aej;refine zN 4 ?_;refine vv (v:=D ((k2+1:Nat):Int)) iI ?_;refine zN 2 ?_;refine bC (k2+1,mc) ?_ jX (by first|omega|(dsimp only;omega));exact⟨(by dsimp only;rw[hmc];exact aej),(by dsimp only;rw[ao7,ahD hxf,<-hmc]),uQ,(by dsimp only;rw[hmc];exact(G9 adJ hxb).mono Y (Nat.le_refl _) Y (Nat.le_refl _)),(Wd.Iy (gs:=[.own 119 23 (.slice R.fA R.fx.length R.fc) R.fx.length ((R.fx).flatMap LX.cells)]) (hmc▸aej))⟩
  refine zN 11 ?_;have zu:m.QT a=mm:=by rw[alM ‹_›];show m.Ms.foldl Cl.Nk {m with Ms:=[]}=mm;rw[<-hm1,ao7,drop_eq_nil_of_le Y];rfl
  rw[zu];have aEh:R.fx.length<=k2:=Y;exact⟨E,Wd.less (gs:=[.own 119 23 (.slice R.fA R.fx.length R.fc) R.fx.length ((R.fx).flatMap LX.cells)]) (by have h9:=ao6;rw[drop_eq_nil_of_le aEh]at h9;exact h9)⟩
 refine zN 7 ?_;by_cases aog:a.kd=8
 ·refine zN 6 ?_;refine fu S3 mixed kQ ?_;refine zN 3 ?_;refine uv (v:=.slice (aD ab ao) 5 R.nc) (λ_ axE=>(aj E E (aG (St.cl 4 axE E Aq)))) ?_;refine zQ ?_;refine uv (v:=D (n:Int)) (λ_ axF=>(Ct hnd (aj E E (aG (St.cl 0 axF E E))))) ?_;refine uv (λ_ _=>ko n) ?_;refine uv (v:=pV kn 0) (λ_ axG=>(aj E E (aG (J▸vV harr hn axG (M9 8 E hL))))) ?_;refine zQ ?_;refine eP λaoh xY=>?_;refine zN 9 ?_
  cases aGD:(X.up)
  ·refine bI (l':=[(3,pV b1 0),(7,pV kn 0),(113,.bool false)]) FH (mq E (qQ (iJ (oV ?_))));have GU:=xY.aO [0];have zY:=GU;rw[<-qP]at zY;have axH:=Wd.dR (m:=m) (m':=m) (H:=H) (H':=H) (fs:=fs) (X':=X) (z':=z) (Ls:=[]) (fA:=R.fA) (fc:=R.fc) (fx:=R.fx) (sA:=R.sA) (sc:=R.sc) (tA:=R.tA) (tc:=R.tc) (rr:=rr) J M (by rw[<-Z]<;>rfl) G hn zY NG.more (λu O=>.inl O) (aB hX).symm G.Ms.symm mI;rw[Pp ‹_› hnd,adI (by rw[hX];assumption)];exact⟨E,axH⟩
  refine bI (l':=[(3,pV b1 0),(7,pV kn 0),(113,.bool true)]) FH (mo E (aQ ?_));have Oq:=xY.drew;refine aK 14 Oq [1] ?_;refine aL 6 ?_;refine bg 4 ?_;refine ji (i:=4) E E (v:=.agg #[.slice z.tA X.data.length z.tc,D X.MC]) (wn E) E E (aj E E (dP (cs:=[.slice z.tA X.data.length z.tc,D X.MC]) (St.rg 1 Oq E (sj)))) ?_;refine dG ?_;refine bg 7 ?_;refine kE 7 E eQ (BD (Ve z.tA X.data.length z.tc X.data X.MC a.kp _ (NG.yh.rd Oq (M9 8 E hL)))) ?_;rintro _ abv ⟨aiG,ao8,rfl,aEi⟩;refine⟨_,E,?_⟩;have zZ:=Oq.ext aEi E;refine aL 6 ?_;refine bg 13 ?_;refine snz (row':=dN n X.up (.slice aiG ((nG X.data X.MC a.kp).1.length) ao8) ((nG X.data X.MC a.kp).2.1) (.slice (aD z.bb 0) 4 4) X.Nh X.Nf (.slice z.iA z.ix.length z.ic) (z.pv) X.turn) 13 E 2 zZ kQ ?_;intro aub I8;refine aL 2 ?_;refine zN 6 ?_;refine jH (row':=dN n false (.slice aiG ((nG X.data X.MC a.kp).1.length) ao8) ((nG X.data X.MC a.kp).2.1) (.slice (aD z.bb 0) 4 4) X.Nh X.Nf (.slice z.iA z.ix.length z.ic) (z.pv) X.turn) 2 I8 kQ ?_;intro aBj Xi;refine zN 4 ?_;have Mj:=Xi.eH [2];refine dJ eQ (nS Mj O) ?_;rintro _ atf ⟨rfl,axI,N8⟩;refine⟨_,E,?_⟩;have Ak:=N8.aO [5,4,3];refine zQ ?_;refine bX (l':=[]) trivial (iJ (oV ?_));rw[Pp ‹_› hnd,ahH (by rw[hX];assumption)];have acJ:=Ak.CO 119 23;have Oa:=acJ.eH [7,7,7,7,4,6,6];rw[<-qP]at Oa;exact⟨E,Wd.dR (X':=X.Nn a.kp) (z':={bb:=axI,tA:=aiG,tc:=ao8,bx:=tu,iA:=none,ic:=0,ix:=[],pv:=.nilFunc}) (Ls:=[.cZ 1 aiG ((nG X.data X.MC a.kp).1.length) (Gt ((nG X.data X.MC a.kp).1))]) (fA:=R.fA) (fc:=R.fc) (fx:=R.fx) (sA:=R.sA) (sc:=R.sc) (tA:=R.tA) (tc:=R.tc) J M Z G hn Oa ⟨E,Pj,Ro.cZ (mem_append_right _ (mem_singleton.2 E)),E,λy hy=>(by cases hy),E⟩ (λu O=>.inl O) (by rw[hX];rfl) G.Ms.symm mI⟩
 refine zN 7 ?_;by_cases aLI:a.kd=9
 ·refine zN 5 ?_;have ao0:St B w0 w2 [.Mg b1 (aR a) 51]:=S3.sub (Sublist.cons_cons _ (nil_sublist _));have WI:=S3.drew;have MB:=ao0.drew;refine aK 10 MB [] ?_;refine aL 5 ?_;refine ak (v:=D (n:Int)) 6 E MB (λ_ aeb=>(Ct hnd (aj E E (aG (St.cl 0 aeb E E))))) ?_;refine bg 4 ?_;refine ji (i:=4) E E (v:=.slice (aD ab ao) 5 R.nc) (wn E) E E (aj E E (aG (St.cl 4 WI E Aq))) ?_;refine dG ?_;refine ak 7 E MB (λ_ _=>ko n) ?_;refine bg 8 ?_;refine ji (i:=8) E E (v:=pV kn 0) (wn E) E E (aj E E (aG (J▸vV harr hn WI (M9 8 E hL)))) ?_;refine dG ?_;refine bg 9 ?_;have Ja:=WI.eH [7,7,7,7,7,7,7];have Xn:=Ja;rw[<-qP]at Xn;have XD:=Wd.dR (m:=m) (m':=m) (H:=H) (H':=H) (fs:=(.Mg b1 (aR a) 51)::fs) (X':=X) (z':=z) (Ls:=[]) (fA:=R.fA) (fc:=R.fc) (fx:=R.fx) (sA:=R.sA) (sc:=R.sc) (tA:=R.tA) (tc:=R.tc) (rr:=(.Mg b1 (aR a) 51)::rr) J M (by rw[<-Z]<;>rfl) G hn Xn NG.more (λu O=>.inl O) (aB hX).symm G.Ms.symm mI;refine kE 9 E eQ (VG hn J M O (by have:=I.fl;omega) (by have:=I.aP;omega) XD (I.iK n hn).RU.1 (I.iK n hn).RU.2.1 (I.iK n hn).RU.2.2.1 (I.iK n hn).RU.2.2.2 hsh) ?_;rintro _ aAr ⟨rfl,anw⟩;refine⟨_,E,?_⟩;have as6:=Wd.Iy (gs:=[.Mg b1 (aR a) 51]) anw;refine aL 2 ?_;refine bX (l':=[]) trivial (iJ (oV ?_));rw[adG ‹_› hnd];exact⟨E,(Wd.less (gs:=[.Mg b1 (aR a) 51]) anw)⟩
 refine zN 8 ?_;refine vv (v:=D (q:Int)) (Ct hqd (aj E E (aG (St.cl 0 S3 E E)))) ?_;refine zN 2 ?_;obtain⟨PW,hPW⟩:∃r,aJ m.off q=r:=⟨_,E⟩;obtain⟨nn,hnn,hwn⟩:=alI hPW;have aor:=S3.eH [7,7,7,7,7,7,7];have W9:=aor;rw[<-qP]at W9;have axJ:=Wd.dR (m:=m) (m':=m) (H:=H) (H':=H) (fs:=(.Mg b1 (aR a) 51)::fs) (X':=X) (z':=z) (Ls:=[]) (fA:=R.fA) (fc:=R.fc) (fx:=R.fx) (sA:=R.sA) (sc:=R.sc) (tA:=R.tA) (tc:=R.tc) (rr:=(.Mg b1 (aR a) 51)::rr) J M (by rw[<-Z]<;>rfl) G hn W9 NG.more (λu O=>.inl O) (aB hX).symm G.Ms.symm mI;refine dJ eQ (Y5 hnn E M O (by have:=I.fl;omega) (by have:=I.aP;omega) hq axJ (I.iK nn hnn).lg hPW hwn) ?_;rintro _ aol ⟨rfl,anx⟩;refine⟨_,E,?_⟩;have Xg:=Wd.Iy (gs:=[.Mg b1 (aR a) 51]) anx;refine zQ ?_;refine bX (l':=[]) trivial (iJ (oV ?_));rw[adH ‹_› ‹_› ‹_› ‹_› ‹_› ‹_› ‹_› ‹_› ‹_› hqd];exact⟨E,(Wd.less (gs:=[.Mg b1 (aR a) 51]) anx)⟩
def wh:List Ac->Int
 |[]=>0
 |a::l=>if dD a≠0 then dD a else wh l
def Cx(l:List Ac):Int:=if 100000<l.length then 1 else wh l
section
variable {l:List Ac}{k:Nat}{x:Ac}
def ar4(h:l[k]? =some x)(I:dD x=0):wh (l.drop k)=wh (l.drop (k+1)):=by rw[Rc h,wh,if_neg (λe=>e I)]
def alN(h:l[k]? =some x)(I:¬dD x=0):wh (l.drop k)=dD x:=by rw[Rc h,wh,if_pos I]
def Qu(h:¬ 100000<l.length):Cx l=wh l:=if_neg h
def ahJ(h:100000<l.length):Cx l=1:=if_pos h
def LY:∀ {l:List Ac},wh l=0-> ∀a∈l,dD a=0
 |[],_,a,ha=>by simp at ha
 |x::l,h,a,ha=>by
  rw[wh]at h
  split at h
  ·rename_i hx;exact absurd h hx
  rename_i hx
  rcases mem_cons.1 ha with rfl|ha
  ·exact Classical.not_not.1 hx
  exact LY h a ha
def alO(h:Cx l=0):l.length<=100000/\ ∀a∈l,dD a=0:=by
 unfold Cx at h
 split at h
 ·cases h
 exact⟨by omega,LY h⟩
def alP(h:l[k]? =some x):l.take (k+1)=l.take k++[x]:=by rw[take_add_one,h];rfl
def ahK{m:Cl}{l:List Ac}:m.run (l++[x])=(m.run l).QT x:=by unfold Cl.run;rw[foldl_append];rfl
end
def Gl(fl:Nat)(U:Nat->Bool)(d:QK)(bv sv tv:Value)(calls:Nat):List Value:=
 [D (fl:Int),.bool (U 0),.bool (U 1),.bool (U 2),.bool (U 3),.bool (U 4),D d.p0.node,D d.p0.Mc,D d.p1.node,D d.p1.Mc,D d.p2.node,D d.p2.Mc,D d.p3.node,D d.p3.Mc,bv,sv,tv,D (calls:Int)]
def oD(fl:Nat)(U:Nat->Bool)(d:QK)(bv sv tv:Value)(calls:Nat):Array Value:=(Gl fl U d bv sv tv calls).toArray
def alQ:Array Value:=oZ
section
variable {fl calls q k:Nat}{U:Nat->Bool}{d:QK}{bv sv tv fv nv:Value}{sh:Nat->Nat->Int×Int}
def anz(h1:bv.oneCell'=true)(I:sv.oneCell'=true)(J:tv.oneCell'=true):∀u∈(oD fl U d bv sv tv calls).toList,u.oneCell'=true:=by
 intro u h;simp only[oD,Gl,mem_cons,not_mem_nil,or_false]at h
 rcases h with rfl|rfl|rfl|rfl|rfl|rfl|rfl|rfl|rfl|rfl|rfl|rfl|rfl|rfl|rfl|rfl|rfl|rfl<;>first|rfl|assumption
def XE{RV I o:Nat}{U':Nat->Bool}{d':QK}{J M O:Value}{vs:List Value}(h:o+vs.length<=18)(he:(Gl fl U d bv sv tv calls).take o++vs++(Gl fl U d bv sv tv calls).drop (o+vs.length)=Gl RV U' d' J M O I):
 dn (oD fl U d bv sv tv calls) o vs=oD RV U' d' J M O I:=Array.ext' (by rw[iC _ _ _ h];exact he)
def aEj{RV:Nat}:dn (oD fl U d bv sv tv calls) 0 [D (RV:Int)]=oD RV U d bv sv tv calls:=XE (le_of_ble_eq_true E) E
def aEk{d':QK}:dn (oD fl U d bv sv tv calls) 6 d'.cells=oD fl U d' bv sv tv calls:=XE (le_of_ble_eq_true E) E
def anA{x:Value}:dn (oD fl U d bv sv tv calls) 14 [x]=oD fl U d x sv tv calls:=XE (le_of_ble_eq_true E) E
def axK(h:q<5){v:Bool}:dn (oD fl U d bv sv tv calls) (1+q*1) [.bool v]=oD fl (Na U q v) d bv sv tv calls:=by
 rcases five h with rfl|rfl|rfl|rfl|rfl<;>exact XE (le_of_ble_eq_true E) E
def alR:∀(j:Nat) (u:Value),(oD 0 (λ_=>false) (⟨⟨0,0⟩,⟨0,0⟩,⟨0,0⟩,⟨0,0⟩⟩:QK) (.slice none 0 0) sv tv calls).toList[j]? =some u->(lJ nv d fv sh sv tv calls)[50+j]? =some u:=by
 intro j u h;have J:j<18:=(List.getElem?_eq_some_iff.1 h).1;have I:j=0\/j=1\/j=2\/j=3\/j=4\/j=5\/j=6\/j=7\/j=8\/j=9\/j=10\/j=11\/j=12\/j=13\/j=14\/j=15\/j=16\/j=17:=Y
 rcases I with rfl|rfl|rfl|rfl|rfl|rfl|rfl|rfl|rfl|rfl|rfl|rfl|rfl|rfl|rfl|rfl|rfl|rfl<;>exact h
end
def gL(p:Nat×List BX):List Value:=[.slice (aD p.1 0) 4 4]
structure P1 (L:List J8)(m:Cl)(j:Nat)(p:Nat×List BX):Prop where
 rd:Ro L 6 (aD p.1 0) 4 (p.2.flatMap BX.cells)
 bm:p.2.map BX.b=vB (m.ah j).view
 bo:∀y∈p.2,Cn L y
def P1.mono{L L':List J8}{m:Cl}{j:Nat}{p:Nat×List BX}(h:P1 L m j p)(I:∀f∈L,f∈L'):P1 L' m j p:=⟨h.rd.mono I,h.bm,λy J=>(h.bo y J).mono I⟩
def XF(L:List J8)(m:Cl)(row:Array Value):Prop:= ∃(U:Nat->Bool) (BA:Option Addr) (bc:Nat) (sA:Option Addr) (sc:Nat) (tA:Option Addr) (tc:Nat) (ps:List (Nat×List BX)),row=oD m.Ms.length U m.off (.slice BA 5 bc) (.slice sA m.aP.length sc) (.slice tA m.bL.length tc) m.calls/\(∀j,j<5->U j=(m.ah j).up)/\ps.length=5/\
 Ro L 1 BA 5 (ps.flatMap gL)/\Ro L 14 sA m.aP.length (m.aP.flatMap jJ.cells)/\Ro L 7 tA m.bL.length (m.bL.flatMap xq.cells)/\ ∀j p,ps[j]? =some p->P1 L m j p
section
variable {K:CK}{R:CX}{B n k:Nat}{w0 w:World}{fs gs N lK L LC:List J8}{m:Cl}{H:List LX}{X:Nd}{z:NX}{ps:List (Nat×List BX)}{p:Nat×List BX}{bs:List BX}{bB:Nat}{U:Nat->Bool}
def Wd.top(h:Wd K B w0 w fs m H):St B w0 w fs:=by
 obtain⟨R,_,S⟩:=h;exact S.sub (sublist_append_left _ _)
open Classical in
def St.shut(hn:n<5)(S:St B w0 w (kJ K n (m.ah n) (R.nx n)++(uT K R m++(gs++gG K R m fs n)))):St B w0 w (gs++(fs++lN K R m)):=by
 refine S.perm (List.perm_iff_count.2 λa=>?_);have h1:=List.perm_iff_count.1 (vG (λj=>kJ K j (m.ah j) (R.nx j)) hn) a;unfold gG lN mg;simp only[List.count_append]at h1⊢;omega
open Classical in
def St.anB(hn:n<5)(S:St B w0 w (kJ K n (m.ah n) (R.nx n)++(uT K R m++(gs++((N++(fs++(mg K R m n++R.L)))++lK))))):St B w0 w (gs++((lK++N)++(fs++lN K R m))):=by
 refine S.perm (List.perm_iff_count.2 λa=>?_);have h1:=List.perm_iff_count.1 (vG (λj=>kJ K j (m.ah j) (R.nx j)) hn) a;unfold lN mg;simp only[List.count_append]at h1⊢;omega
open Classical in
def St.aEl(hn:n<5)(S:St B w0 w (gs++(N++(fs++lN K R m)))):St B w0 w (kJ K n (m.ah n) (R.nx n)++(uT K R m++(gs++(N++(fs++(mg K R m n++R.L)))))):=by
 refine S.perm (List.perm_iff_count.2 λa=>?_);have h1:=List.perm_iff_count.1 (vG (λj=>kJ K j (m.ah j) (R.nx j)) hn) a;unfold lN mg;simp only[List.count_append]at h1⊢;omega
open Classical in
def St.axL(S:St B w0 w (gs++(N++(fs++LC)))):St B w0 w ((gs++(N++LC))++fs):=by
 refine S.perm (List.perm_iff_count.2 λa=>?_);simp only[List.count_append];omega
def Pq(J:ps.length=k)(h:∀j p,ps[j]? =some p->P1 L m j p)(hn:P1 L m k p):∀j q,(ps++[p])[j]? =some q->P1 L m j q:=λj q I=>by
 by_cases e:j<ps.length
 ·rw[getElem?_append_left e]at I;exact h j q I
 rw[getElem?_append_right Y]at I;have:j-ps.length=0:=by
  have:=(List.getElem?_eq_some_iff.1 I).1;rw[length_singleton]at this;omega
 rw[this]at I
 cases I;rw[show j=k by omega];exact hn
def ar5(h:k<5)(I:R.nx k=z):J8.own 42 6 (.slice (aD z.bb 0) 4 4) 4 (z.bx.flatMap BX.cells)∈lN K R m:=by
 subst I;refine mem_append_right _ (mem_append_left _ (mem_flatMap.2 ⟨k,mem_range.2 h,?_⟩));exact mem_cons_of_mem _ (mem_cons_self ..)
def alS(h:dX K R.L k (m.ah k) (R.nx k))(J:m.ah k=X)(I:R.nx k=z)(M:X.up=true)(O:k<5):P1 (N++lN K R m) m k (z.bb,z.bx):=by
 have Z:=ar5 (K:=K) (m:=m) O I;subst J;subst I;refine⟨Ro.own (mem_append_right _ Z),?_,λy hy=>(h.TF y hy).mono λf hf=>mem_append_right _ (mem_append_right _ (mem_append_right _ hf))⟩;rw[dK M];exact h.Ry
def alT(h:bs.map BX.b=vB (bD X.data X.MC))(I:∀y∈bs,y.b.Gs.length<=y.c)(J:m.ah k=X)(M:X.up=false):P1 ((J8.own 42 6 (.slice (aD bB 0) 4 4) 4 (bs.flatMap BX.cells)::(fK bs++N))++LC) m k (bB,bs):=by
 subst J;refine⟨Ro.own (mem_append_left _ (mem_cons_self ..)),?_,λy O=>(Po I y O).mono λf Z=>mem_append_left _ (mem_cons_of_mem _ (mem_append_left _ Z))⟩;unfold Nd.view;rw[if_neg (by rw[M];simp)];exact h
def Uf(h:∀j,j<k->U j=(m.ah j).up)(I:m.ah k=X):∀j,j<k+1->Na U k X.up j=(m.ah j).up:=λj J=>by
 by_cases e:j=k
 ·rw[e,Ee,I]
 rw[Kg e];exact h j Y
def alU{OA:Option Addr}{h:Nat}(G:Good K R m H)(I:ps.length=5)(O:∀j,j<5->U j=(m.ah j).up)(J:J8.own 43 1 (.slice OA ps.length h) ps.length (ps.flatMap gL)∈L)(M:∀f∈lN K R m,f∈L)(Z:∀j p,ps[j]? =some p->P1 L m j p):
 XF L m (oD R.fx.length U m.off (.slice OA ps.length h) (.slice R.sA m.aP.length R.sc) (.slice R.tA m.bL.length R.tc) m.calls):=by
 rw[I]at J⊢;have hf:R.fx.length=m.Ms.length:=by rw[<-G.Ms,length_map]
 have h1:J8.own 164 14 (.slice R.sA m.aP.length R.sc) m.aP.length (m.aP.flatMap jJ.cells)∈lN K R m:=mem_append_left _ (mem_cons_of_mem _ (mem_cons_of_mem _ (mem_cons_self ..)));have h2:J8.own 56 7 (.slice R.tA m.bL.length R.tc) m.bL.length (m.bL.flatMap xq.cells)∈lN K R m:=mem_append_left _ (mem_cons_of_mem _ (mem_cons_of_mem _ (mem_cons_of_mem _ (mem_cons_self ..))));exact⟨U,OA,h,R.sA,R.sc,R.tA,R.tc,ps,by rw[hf],O,I,Ro.own J,Ro.own (M _ h1),Ro.own (M _ h2),Z⟩
end
def adK{B:Nat}{w0 w:World}{fs:List J8}{A:Option Addr}{c:Nat}{l:List Ac}(S:St B w0 w fs)(hu:Uk B w0)(XG:Ro fs 11 A l.length (l.flatMap Ac.cells))(hb:l.length*88<=reachBytes):
 Calls prog 16 #[.slice A l.length c] w (λe w'=>(Cx l≠0->e=.returned (.tuple #[.agg alQ,D (Cx l)])/\St B w0 w' fs)/\(Cx l=0-> ∃row L,e=.returned (.tuple #[.agg row,D 0])/\XF L (kM.run l) row/\St B w0 w' (L++fs))):=by
 have hb2:=hb;unfold reachBytes at hb2;refine gP 99 func16 ?_;refine cw [0] ?_;refine zN 2 ?_;refine gD S ah7 ?_;intro b1 w2 S3;refine zN 8 ?_;by_cases h4:100000< (l.length:Int)
 ·refine zN 7 ?_;refine sa 0 S3 kQ ?_;intro w5 S6;refine zN 6 ?_;have S7:=S6.aO [0];have hsf:Cx l=1:=ahJ Y;refine⟨λ_=>⟨by rw[hsf];rfl,S7⟩,λh=>?_⟩;rw[hsf]at h;exact absurd h (by first|decide|assumption)
 refine zN 15 ?_;refine fJ (X:=Nat) (λI=>[(0,.slice A l.length c),(2,pV b1 0),(3,D 0),(18,.slice A l.length c),(19,D (l.length:Int)),(20,D (I:Int))]) (λI wr=>(I<=l.length)/\(wh l=wh (l.drop I))/\St B w0 wr ((.Mg b1 oZ 35)::fs)) (λI=>l.length-I) (0) ?_ ?_ ?_
 ·exact⟨zero_le _,E,S3⟩
 ·exact rU
 rintro k1 w8 ⟨Xu,Ml,S9⟩
 try dsimp only at Xu Ml S9
 refine bI (l':=[(0,.slice A l.length c),(2,pV b1 0),(3,D 0),(18,.slice A l.length c),(19,D (l.length:Int)),(20,D (k1:Int))]) rU (aQ (aC ?_));by_cases h12:(k1:Int)< (l.length:Int)
 ·refine zN 10 ?_;obtain⟨x,hx⟩:∃x,l[k1]? =some x:=⟨_,getElem?_eq_getElem Y⟩;obtain⟨ab_,ao_,hAb⟩:=yH XG S9 (M9 1 E dY) Y;refine zQ ?_;refine vv (v:=pV ab_ (ao_+k1*11)) (aM E E E (fq k1 hAb underlying23 kQ Y Y)) ?_;refine vv (v:=.agg (aR x)) (aj E E (dP (cs:=Ac.cells x) (λj u hu=>by rw[Nat.add_assoc];exact iy XG hAb S9 (M9 1 E dY) (bE (enc:=Ac.cells) (sz:=11) (k:=k1) (λ_=>E) hx hu)))) ?_;refine gD S9 ah8 ?_;intro b13 Lf jm;refine sa 0 jm kQ ?_;intro w16 zR;refine zN 5 ?_;refine Rq eQ zR (afa x _) ?_;intro M0 uM;refine zN 6 ?_;by_cases h21:dD x=0
  ·refine zN 8 ?_;refine vv (v:=D ((k1+1:Nat):Int)) iI ?_;refine zN 2 ?_;have jY:=uM.aO [0];refine bC (k1+1) ?_ rU (by first|omega|(dsimp only;omega));exact⟨Y,(by rw[Ml];exact ar4 hx h21),jY⟩
  refine zN 8 ?_;refine sa 1 uM kQ ?_;intro JN kF;refine zN 10 ?_;have lH:=kF.aO [1,0];have hsf:Cx l=dD x:=by rw[Qu Y,Ml];exact alN hx h21
  refine⟨λ_=>⟨by rw[hsf];rfl,lH⟩,λh=>?_⟩;rw[hsf]at h;exact absurd h (by first|decide|assumption)
 refine zN 12 ?_;have avt:Cx l=0:=by rw[Qu Y,Ml,drop_eq_nil_of_le Y];rfl
 obtain⟨aGE,hall⟩:=alO avt;refine dJ eQ (Vz S9 hu) ?_;rintro _ NZ ⟨K,rfl,aEm⟩;refine⟨_,E,?_⟩;have aek:Wd K B w0 NZ ((.Mg b1 oZ 35)::fs) kM []:=aEm;have tC:=Wd.top aek;obtain⟨kw,iH⟩:∃b,K.wb=b:=⟨_,E⟩;obtain⟨n,hn0⟩:∃n,n=0:=⟨_,E⟩;have hn:n<5:=Y;obtain⟨kn,hkn⟩:∃b,K.nb n=b:=⟨_,E⟩;rw[iH];refine zN 12 ?_;refine fJ (X:=Nat×Cl) (λI=>[(2,pV b1 0),(3,D 0),(7,pV kw 0),(32,.slice A l.length c),(33,D (l.length:Int)),(34,D (I.1:Int))]) (λI wr=>(Wd K B w0 wr ((.Mg b1 oZ 35)::fs) I.2 [])/\(I.2=kM.run (l.take I.1))/\(Bs I.2 I.1)/\(Rh I.2)/\(I.1<=l.length)/\St B w0 wr ((.Mg b1 oZ 35)::fs)) (λI=>l.length-I.1) (0,kM) ?_ ?_ ?_
 ·exact⟨aek,E,auF,λ_ _=>Int.le_refl _,zero_le _,Wd.top aek⟩
 ·exact rU
 rintro⟨k2,mm⟩ w29 ⟨adr,I6,I7,Sw,ao3,zP⟩
 try dsimp only at adr I6 I7 Sw ao3 zP
 refine bI (l':=[(2,pV b1 0),(3,D 0),(7,pV kw 0),(32,.slice A l.length c),(33,D (l.length:Int)),(34,D (k2:Int))]) rU ?_;obtain⟨R3,G3,WH⟩:=adr.open hn;have Ud:=G3.iK n hn;obtain⟨M,Z⟩:∃X,mm.ah n=X:=⟨_,E⟩;obtain⟨O,hz3⟩:∃z,R3.nx n=z:=⟨_,E⟩;rw[Z,hz3]at WH Ud;obtain⟨rr3,Jw⟩:∃r,gG K R3 mm fs n=r:=⟨_,E⟩;have avu:∀f∈fs,f∈rr3:=λf hf=>Jw▸mem_append_left _ hf;have tH:St B w0 w29 (cN kn n M O O.pv (cF kw R3 mm ((.Mg b1 oZ 35)::rr3))):=by rw[<-Jw];subst hkn;subst iH;exact WH
 clear WH;refine zN 2 ?_;by_cases h37:(k2:Int)< (l.length:Int)
 ·refine zN 10 ?_;obtain⟨x,hx⟩:∃x,l[k2]? =some x:=⟨_,getElem?_eq_getElem Y⟩;obtain⟨ab_,ao_,hAb⟩:=yH XG tH (M9 8 E avu) Y;have hxa:=RH (hall x (mem_of_getElem? hx));refine zQ ?_;refine vv (v:=pV ab_ (ao_+k2*11)) (aM E E E (fq k2 hAb underlying23 kQ Y Y)) ?_;refine vv (v:=.agg (aR x)) (aj E E (dP (cs:=Ac.cells x) (λj u hu=>by rw[Nat.add_assoc];exact iy XG hAb tH (M9 8 E avu) (bE (enc:=Ac.cells) (sz:=11) (k:=k2) (λ_=>E) hx hu)))) ?_;refine gD tH ah8 ?_;intro b38 w39 vS;refine sa 0 vS kQ ?_;intro w41 Eo;refine zN 5 ?_;have rW:=Eo.aO [0];have aEn:=Wd.dR (m:=mm) (m':=mm) (H:=[]) (H':=[]) (fs:=(.Mg b1 oZ 35)::fs) (X':=M) (z':=O) (Ls:=[]) (fA:=R3.fA) (fc:=R3.fc) (fx:=R3.fx) (sA:=R3.sA) (sc:=R3.sc) (tA:=R3.tA) (tc:=R3.tc) (rr:=(.Mg b1 oZ 35)::rr3) hkn iH (by rw[<-Jw];rfl) G3 hn rW Ud.more (λu hu=>.inl hu) (aB Z).symm G3.Ms.symm mI;refine dJ eQ (ahI (n:=x.nd.toNat) (q:=x.qu.toNat) (by have:=hxa.nd;omega) (by have:=hxa.qu;omega) (by have:=hxa.nd;omega) (by have:=hxa.qu;omega) E iH hu aEn I7 Y hxa Sw) ?_;rintro _ ZR ⟨rfl,ao9⟩;refine⟨_,E,?_⟩;have zx:=Wd.top ao9;refine zN 4 ?_;refine vv (v:=D ((k2+1:Nat):Int)) iI ?_;refine zN 2 ?_;refine bC (k2+1,mm.QT x) ?_ rU (by first|omega|(dsimp only;omega));exact⟨ao9,(by dsimp only;rw[alP hx,ahK,<-I6]),(by dsimp only;exact yj I7 hxa Y),(by dsimp only;exact Rh.QT Sw),uQ,(Wd.top ao9)⟩
 refine zN 11 ?_;have hmm:mm=kM.run l:=by rw[I6,take_of_length_le Y]
 have hBs:=I7;obtain⟨R,G,S0⟩:=adr.open hn;have NG:=G.iK n hn;obtain⟨X,hX⟩:∃X,mm.ah n=X:=⟨_,E⟩;obtain⟨z,hz⟩:∃z,R.nx n=z:=⟨_,E⟩;rw[hX,hz]at S0 NG;obtain⟨rr,hrr⟩:∃r,gG K R mm fs n=r:=⟨_,E⟩;have hfr:∀f∈fs,f∈rr:=λf hf=>hrr▸mem_append_left _ hf;have AA:St B w0 w29 (cN kn n X z z.pv (cF kw R mm ((.Mg b1 oZ 35)::rr))):=by rw[<-hrr];subst hkn;subst iH;exact S0
 clear S0;have hcl:=hBs.calls;have hfl:R.fx.length=mm.Ms.length:=by rw[<-G.Ms,length_map]
 refine zN 4 ?_;refine vv (v:=.agg (oD 0 (λ_=>false) (⟨⟨0,0⟩,⟨0,0⟩,⟨0,0⟩,⟨0,0⟩⟩:QK) (.slice none 0 0) (.slice R.sA mm.aP.length R.sc) (.slice R.tA mm.bL.length R.tc) mm.calls)) (aj E E (dP (cs:=(oD 0 (λ_=>false) (⟨⟨0,0⟩,⟨0,0⟩,⟨0,0⟩,⟨0,0⟩⟩:QK) (.slice none 0 0) (.slice R.sA mm.aP.length R.sc) (.slice R.tA mm.bL.length R.tc) mm.calls).toList) (St.rg 3 AA E alR))) ?_;refine gD AA ah7 ?_;intro J VY vk;refine stA 0 vk kQ ?_ (h1:=by exact anz (fl:=0) (U:=(λ_=>false)) (d:=(⟨⟨0,0⟩,⟨0,0⟩,⟨0,0⟩,⟨0,0⟩⟩:QK)) (bv:=.slice none 0 0) (sv:=.slice R.sA mm.aP.length R.sc) (tv:=.slice R.tA mm.bL.length R.tc) (calls:=mm.calls) E E E);intro w52 CS;refine zN 2 ?_;have uO:=CS.eH [4,1];refine zQ ?_;have vo:=uO.drew;refine aK 13 vo [0] ?_;refine aL 3 ?_;refine ak (v:=.slice R.fA R.fx.length R.fc) 3 E (St.del 0 vo) (λ_ abo=>(aj E E (aG (St.cl 0 abo E Sr)))) ?_;refine aL 4 ?_;refine ak (v:=.agg ((mm.off.cells).toArray)) 8 E (St.del 0 vo) (λ_ abh=>(aj E E (dP (cs:=(mm.off.cells)) (St.rg 0 abh E (yg))))) ?_;refine dG ?_;refine bg 10 ?_;refine snz 10 E 0 vo kQ ?_ (hs:=by exact aEj);intro VZ uL;refine aL 2 ?_;refine bg 12 ?_;refine snz 12 E 0 uL kQ ?_ (h1:=vU _) (hs:=by exact aEk);intro w69 yK;refine aL 2 ?_;refine zN 3 ?_;obtain⟨ab,ao,qP⟩:=Cr G.arr yK (M9 9 E λf hf=>hrr▸mem_append_right _ (mem_append_right _ hf));refine zN 4 ?_;refine vv (v:=.slice R.nA 5 R.nc) (aj E E (aG (St.cl 1 yK E Aq))) ?_;refine zN 5 ?_;have rX:=yK.eH [7,7,7,4,7,7,7];have FP:=St.shut (gs:=[.Mg J (oD R.fx.length (λ_=>false) mm.off (.slice none 0 0) (.slice R.sA mm.aP.length R.sc) (.slice R.tA mm.bL.length R.tc) mm.calls) 35,.Mg b1 oZ 35]) hn (by subst hkn;subst iH;rw[hX,hz,show gG K R mm fs n=rr from hrr];exact rX);have uq:=FP.nil 43 1;obtain⟨LC,hLC⟩:∃f,f=lN K R mm:=⟨_,E⟩;obtain⟨LF,hLF⟩:∃f,f=fs++LC:=⟨_,E⟩;rw[<-hLC,<-hLF]at uq;refine fJ (X:=Nat×(Nat->Bool)×(List (Nat×List BX))×(Option Addr)×Nat×(List J8)) (λI=>[(2,pV b1 0),(3,D 0),(10,pV J 0),(60,.slice R.nA 5 R.nc),(61,D 5),(62,D (I.1:Int))]) (λI wr=>(I.1<=5)/\(I.2.2.1.length=I.1)/\(∀j p,I.2.2.1[j]? =some p->P1 (I.2.2.2.2.2++LC) mm j p)/\(∀j,j<I.1->I.2.1 j=(mm.ah j).up)/\St B w0 wr ((.own 43 1 (.slice I.2.2.2.1 I.2.2.1.length I.2.2.2.2.1) I.2.2.1.length ((I.2.2.1).flatMap gL))::(.Mg J (oD R.fx.length I.2.1 mm.off (.slice I.2.2.2.1 I.2.2.1.length I.2.2.2.2.1) (.slice R.sA mm.aP.length R.sc) (.slice R.tA mm.bL.length R.tc) mm.calls) 35)::(.Mg b1 oZ 35)::(I.2.2.2.2.2++LF))) (λI=>5-I.1) (0,(λ_=>false),[],none,0,[]) ?_ ?_ ?_
 ·exact⟨zero_le _,E,(λj p hp=>by simp at hp),(λj hj=>absurd hj (not_lt_zero _)),uq⟩
 ·exact rU
 rintro⟨k,U9,ps,OA,oc,N9⟩ w74 ⟨avv,adL,aiH,aiI,Em⟩
 try dsimp only at avv adL aiH aiI Em
 refine bI (l':=[(2,pV b1 0),(3,D 0),(10,pV J 0),(60,.slice R.nA 5 R.nc),(61,D 5),(62,D (k:Int))]) rU ?_;have hk5:k<=5:=avv;refine zN 2 ?_;by_cases h80:(k:Int)<5
 ·refine zN 10 ?_;have hk4:k<5:=Y;have S9:=St.aEl (n:=k) (gs:=[.own 43 1 (.slice OA ps.length oc) ps.length ((ps).flatMap gL),.Mg J (oD R.fx.length U9 mm.off (.slice OA ps.length oc) (.slice R.sA mm.aP.length R.sc) (.slice R.tA mm.bL.length R.tc) mm.calls) 35,.Mg b1 oZ 35]) (N:=N9) (fs:=fs) hk4 (by rw[<-hLC,<-hLF];exact Em);obtain⟨M,Z⟩:∃X,mm.ah k=X:=⟨_,E⟩;obtain⟨O,hz3⟩:∃z,R.nx k=z:=⟨_,E⟩;obtain⟨knk,aiJ⟩:∃b,K.nb k=b:=⟨_,E⟩;obtain⟨rk,NP⟩:∃r,fs++(mg K R mm k++R.L)=r:=⟨_,E⟩;have Ud:=G.iK k hk4;rw[Z,hz3]at S9 Ud;rw[NP]at S9;have hLk:∀f∈R.L,f∈rk:=λf hf=>NP▸mem_append_right _ (mem_append_right _ hf);have uo:St B w0 w74 (cN knk k M O O.pv (cF kw R mm ((.own 43 1 (.slice OA ps.length oc) ps.length ((ps).flatMap gL))::(.Mg J (oD R.fx.length U9 mm.off (.slice OA ps.length oc) (.slice R.sA mm.aP.length R.sc) (.slice R.tA mm.bL.length R.tc) mm.calls) 35)::(.Mg b1 oZ 35)::(N9++rk)))):=by subst aiJ;subst iH;exact S9
  clear S9;refine zN 2 ?_;refine vv (v:=pV ab (ao+k*1)) (aM E E E (fq k qP underlying90 kQ Y Y)) ?_;refine vv (v:=pV knk 0) (aj E E (aG (aiJ▸vV (qP▸G.arr) hk4 uo (M9 10 E λf hf=>mem_append_right _ (hLk f hf))))) ?_;refine zN 12 ?_;refine vv (v:=pV J (1+k*1)) (aM E E E (fU k underlying25 kQ E hk4)) ?_;refine Fz (cs:= #[.bool M.up]) (row':=oD R.fx.length (Na U9 k M.up) mm.off (.slice OA ps.length oc) (.slice R.sA mm.aP.length R.sc) (.slice R.tA mm.bL.length R.tc) mm.calls) (fs':=(_::_::_::_::_::_::_::_::(.Mg J (oD R.fx.length (Na U9 k M.up) mm.off (.slice OA ps.length oc) (.slice R.sA mm.aP.length R.sc) (.slice R.tA mm.bL.length R.tc) mm.calls) 35)::_::(N9++rk))) 8 uo (wn E) E E E E E E kQ E (bY E) (by show 1+k*1+1<=18;omega) (axK hk4 (v:=M.up)) E ?_;intro w82 Dz;refine zN 13 ?_
  rcases hup:M.up with _|_
  ·refine zN 4 ?_;refine vv (v:=.bool false) (O6 hup (aj E E (aG (St.cl 0 Dz E E)))) ?_;refine zN 8 ?_;refine vv (aj E E (dP (cs:=[.slice O.tA M.data.length O.tc,D M.MC]) (St.rg 0 Dz E (sj)))) ?_;have hrd:=(hBs.iK k hk4).RU;rw[Z]at hrd;refine dJ eQ (IB O.tA O.tc M.data M.MC _ (Ud.yh.rd Dz (M9 10 E λf hf=>mem_append_right _ (hLk f hf))) hrd.1 hrd.2.2.1) ?_;rintro _ w87 ⟨A84,c85,bB,bs,hbm,hbl,hbc,rfl,T86⟩;refine⟨_,E,?_⟩;have JQ:=Dz.ext T86 (by simp[KM,J8.IE]);have JM:St B w0 w87 ((oB bB bs)::(.cZ 1 A84 ((jC M.data M.MC).1.length) (Gt ((jC M.data M.MC).1)))::(cN knk k M O O.pv (cF kw R mm ((.own 43 1 (.slice OA ps.length oc) ps.length ((ps).flatMap gL))::(.Mg J (oD R.fx.length (Na U9 k M.up) mm.off (.slice OA ps.length oc) (.slice R.sA mm.aP.length R.sc) (.slice R.tA mm.bL.length R.tc) mm.calls) 35)::(.Mg b1 oZ 35)::((N9++rk)++fK bs))))):=St.perm JQ (Perm.cons _ (Perm.cons _ (perm_append_comm (l₁:=fK bs))));clear Dz;refine zN 10 ?_;refine bsI JM ?_;intro b90 w91 zw;refine dU (news:=[.slice (aD bB 0) 4 4]) (xs':=((ps++[(bB,bs)])).flatMap gL) 10 zw (wn E) E E E E E E (St.mD (xs:=[.slice (aD bB 0) 4 4]) 0 zw E E E) underlying31 aeA E dQ (bY E) lQ Y (jB (enc:=gL) E E) ?_;intro A93 c94 w95 aLJ aLK DK;refine zQ ?_;refine jH 11 DK kQ ?_ (hs:=by exact anA);intro w99 wM;refine zN 4 ?_;refine vv (v:=D ((k+1:Nat):Int)) iI ?_;refine zN 2 ?_;have wR:=wM.aO [2,0];have tO:=wR.eH [0,10,10,10,10,10,10,10,10,10,10];have vN:St B w0 w99 ((.own 43 1 (.slice A93 (ps.length+1) c94) (ps.length+1) (((ps++[(bB,bs)])).flatMap gL))::(.Mg J (oD R.fx.length (Na U9 k M.up) mm.off (.slice A93 (ps.length+1) c94) (.slice R.sA mm.aP.length R.sc) (.slice R.tA mm.bL.length R.tc) mm.calls) 35)::(.Mg b1 oZ 35)::(((oB bB bs)::(fK bs++N9))++LF)):=by
    rw[hLF,hLC];exact St.anB (n:=k) (gs:=[.own 43 1 (.slice A93 (ps.length+1) c94) (ps.length+1) (((ps++[(bB,bs)])).flatMap gL),.Mg J (oD R.fx.length (Na U9 k M.up) mm.off (.slice A93 (ps.length+1) c94) (.slice R.sA mm.aP.length R.sc) (.slice R.tA mm.bL.length R.tc) mm.calls) 35,.Mg b1 oZ 35,.own 42 6 (.slice (aD bB 0) 4 4) 4 ((bs).flatMap BX.cells)]) (N:=N9) (lK:=fK bs) (fs:=fs) hk4 (by subst aiJ;subst iH;rw[Z,hz3];rw[<-NP]at tO;exact tO)
   have Wm:ps.length+1=(ps++[(bB,bs)]).length:=by simp
   rw[Wm]at vN;refine bC (k+1,Na U9 k M.up,(ps++[(bB,bs)]),A93,c94,(.own 42 6 (.slice (aD bB 0) 4 4) 4 ((bs).flatMap BX.cells)::(fK bs++N9))) ?_ rU (by first|omega|(dsimp only;omega));exact⟨uQ,(by dsimp only;rw[length_append,adL];rfl),(by dsimp only;exact Pq adL (λj p hp=>(aiH j p hp).mono (λf hf=>(mem_append.1 hf).elim (λh=>mem_append_left _ (mem_cons_of_mem _ (mem_append_right _ h))) λh=>mem_append_right _ h)) (alT hbm hbc Z hup)),(by dsimp only;exact Uf aiI Z),vN⟩
  refine zN 4 ?_;refine vv (v:=.bool true) (O6 hup (aj E E (aG (St.cl 0 Dz E E)))) ?_;refine zN 10 ?_;refine bsI Dz ?_;intro aLL aua Mt;refine dU (news:=[.slice (aD O.bb 0) 4 4]) (xs':=((ps++[(O.bb,O.bx)])).flatMap gL) 8 Mt (wn E) E E E E E E (St.mD (xs:=[.slice (aD O.bb 0) 4 4]) 0 Mt E E E) underlying31 aeA E dQ (bY E) lQ Y (jB (enc:=gL) E E) ?_;intro Xe Xf abk aGF aGG qZ;refine zQ ?_;refine jH 9 qZ kQ ?_ (hs:=by exact anA);intro aof ER;refine zN 4 ?_;refine vv (v:=D ((k+1:Nat):Int)) iI ?_;refine zN 2 ?_;have qx:=ER.aO [0];have wP:=qx.eH [9,9,9,9,9,9,9,9,9,9];have Ao:St B w0 aof ((.own 43 1 (.slice Xe (ps.length+1) Xf) (ps.length+1) (((ps++[(O.bb,O.bx)])).flatMap gL))::(.Mg J (oD R.fx.length (Na U9 k M.up) mm.off (.slice Xe (ps.length+1) Xf) (.slice R.sA mm.aP.length R.sc) (.slice R.tA mm.bL.length R.tc) mm.calls) 35)::(.Mg b1 oZ 35)::(N9++LF)):=by
   rw[hLF,hLC];exact St.anB (n:=k) (gs:=[.own 43 1 (.slice Xe (ps.length+1) Xf) (ps.length+1) (((ps++[(O.bb,O.bx)])).flatMap gL),.Mg J (oD R.fx.length (Na U9 k M.up) mm.off (.slice Xe (ps.length+1) Xf) (.slice R.sA mm.aP.length R.sc) (.slice R.tA mm.bL.length R.tc) mm.calls) 35,.Mg b1 oZ 35]) (N:=N9) (lK:=[]) (fs:=fs) hk4 (by subst aiJ;subst iH;rw[Z,hz3,append_nil];rw[<-NP]at wP;exact wP)
  have Wm:ps.length+1=(ps++[(O.bb,O.bx)]).length:=by simp
  rw[Wm]at Ao;refine bC (k+1,Na U9 k M.up,(ps++[(O.bb,O.bx)]),Xe,Xf,N9) ?_ rU (by first|omega|(dsimp only;omega));exact⟨uQ,(by dsimp only;rw[length_append,adL];rfl),(by dsimp only;exact Pq adL (λj p hp=>(aiH j p hp).mono (λf hf=>hf)) (hLC▸alS (G.iK k hk4) Z hz3 hup hk4)),(by dsimp only;exact Uf aiI Z),Ao⟩
 refine zN 13 ?_;refine stA 2 Em kQ ?_ (h1:=by exact anz (fl:=R.fx.length) (U:=U9) (d:=mm.off) (bv:=.slice OA ps.length oc) (sv:=.slice R.sA mm.aP.length R.sc) (tv:=.slice R.tA mm.bL.length R.tc) (calls:=mm.calls) E E E);intro aoh xY;refine zN 5 ?_;have hsf:Cx l=0:=avt;refine⟨λh=>absurd hsf h,λ_=>?_⟩;have sM:=xY.aO [2,1];have h5:k=5:=Y;rw[hLF]at sM;refine⟨_,[.own 43 1 (.slice OA ps.length oc) ps.length ((ps).flatMap gL)]++(N9++LC),E,?_,St.axL (gs:=[.own 43 1 (.slice OA ps.length oc) ps.length ((ps).flatMap gL)]) (N:=N9) (fs:=fs) (LC:=LC) sM⟩;rw[<-hmm];exact alU (ps:=ps) G Y (λj hj=>aiI j Y) (mem_append_left _ (mem_singleton.2 E)) (λf hf=>mem_append_right _ (mem_append_right _ (hLC▸hf))) (λj p hp=>(aiH j p hp).mono λf hf=>mem_append_right _ hf)
def ar8{B:Nat}{w0 w:World}{fs:List J8}{A:Option Addr}{c:Nat}{l:List Ac}(J:Cx l=0)(S:St B w0 w fs)(M:Uk B w0)(I:Ro fs 11 A l.length (l.flatMap Ac.cells))(O:l.length*88<=reachBytes):
 Calls prog 16 #[.slice A l.length c] w (λe w'=> ∃row L,e=.returned (.tuple #[.agg row,D 0])/\XF L (kM.run l) row/\St B w0 w' (L++fs)):=(adK S M I O).mono λ_ _ h=>h.2 J
structure OX where
 fl:Nat
 U:Nat->Bool
 d:QK
 BA:Option Addr
 bc:Nat
 sA:Option Addr
 sn:Nat
 sc:Nat
 tA:Option Addr
 tn:Nat
 tc:Nat
 calls:Nat
def OX.cells(x:OX):List Value:=Gl x.fl x.U x.d (.slice x.BA 5 x.bc) (.slice x.sA x.sn x.sc) (.slice x.tA x.tn x.tc) x.calls
abbrev oY (x:OX)(s:Value):Array Value:= #[D (x.fl:Int),.bool (x.U 0),.bool (x.U 1),.bool (x.U 2),.bool (x.U 3),.bool (x.U 4),D x.d.p0.node,D x.d.p0.Mc,D x.d.p1.node,D x.d.p1.Mc,D x.d.p2.node,D x.d.p2.Mc,D x.d.p3.node,D x.d.p3.Mc,.slice x.BA 5 x.bc,s,.slice x.tA x.tn x.tc,D (x.calls:Int)]
abbrev oX (x:OX):Array Value:=oY x (.slice x.sA x.sn x.sc)
structure XH (L:List J8)(m:Cl)(x:OX):Prop where
 up:∀j,j<5->x.U j=(m.ah j).up
 d:x.d=m.off
 fl:x.fl=m.Ms.length
 sn:x.sn=m.aP.length
 tn:x.tn=m.bL.length
 calls:x.calls=m.calls
 ps:∃ps:List (Nat×List BX),ps.length=5/\Ro L 1 x.BA 5 (ps.flatMap gL)/\ ∀j p,ps[j]? =some p->P1 L m j p
 aP:Ro L 14 x.sA x.sn (m.aP.flatMap jJ.cells)
 bL:Ro L 7 x.tA x.tn (m.bL.flatMap xq.cells)
def XF.x{L:List J8}{m:Cl}{row:Array Value}(h:XF L m row):∃x:OX,row=x.cells.toArray/\XH L m x:=by
 obtain⟨U,BA,bc,sA,sc,tA,tc,ps,rfl,I,J,M,hs,O,Z⟩:=h;exact⟨⟨m.Ms.length,U,m.off,BA,bc,sA,m.aP.length,sc,tA,m.bL.length,tc,m.calls⟩,E,I,E,E,E,E,E,⟨ps,J,M,Z⟩,hs,O⟩
def XH.mono{L L':List J8}{m:Cl}{x:OX}(h:XH L m x)(I:∀f∈L,f∈L'):XH L' m x:=by
 obtain⟨h1,O,Z,h4,h5,h6,⟨ps,h7,h8,h9⟩,J,M⟩:=h;exact⟨h1,O,Z,h4,h5,h6,⟨ps,h7,h8.mono I,λj p hj=>(h9 j p hj).mono I⟩,J.mono I,M.mono I⟩
def aat(B:Nat)(w0:World)(fs:List J8)(l:List Ac)(e:Ending)(w':World):Prop:= ∃x L,e=.returned (.tuple #[.agg (OX.cells x).toArray,.bool true])/\XH L (kM.run l) x/\St B w0 w' (L++fs)
def alV{α:Type}{l:List α}(h:l.length=5):∃a b c d e,l=[a,b,c,d,e]:=by
 match l,h with
 |[a,b,c,d,e],_=>exact⟨a,b,c,d,e,E⟩
def adM{B:Nat}{w0 w:World}{fs:List J8}{A:Option Addr}{c:Nat}{l:List Ac}(h0:Cx l=0)(S:St B w0 w fs)(hu:Uk B w0)(J:Ro fs 11 A l.length (l.flatMap Ac.cells))(hb:l.length*88<=reachBytes):
 Calls prog 8 #[.slice A l.length c] w (aat B w0 fs l):=by
 refine gP 28 func8 ?_;refine cw [0] ?_;refine zN 2 ?_;refine gD S ah7 ?_;intro b1 w2 S3;refine zN 6 ?_;refine dJ eQ (ar8 h0 S3 hu (J.mono (M9 1 E dY)) hb) ?_;rintro _ w4 ⟨aLM,L8,rfl,hO9,S5⟩;refine⟨_,E,?_⟩;obtain⟨x,rfl,hX⟩:=XF.x hO9;obtain⟨ps,hpl,M,hP⟩:=hX.ps;obtain⟨p0,p1,p2,p3,p4,rfl⟩:=alV hpl;have S6:=S5.perm (perm_middle (a:=.Mg b1 oZ 35) (l₁:=L8) (l₂:=fs));have O:∀f∈L8,f∈L8++fs:=λf h=>mem_append_left _ h;obtain⟨bA,oA,Z⟩:=yH M S6 (M9 1 E O) dQ;refine zN 3 ?_;refine gD S6 ah7 ?_;intro b10 Ib pF;refine stA 0 pF kQ ?_;intro En mZ;refine zN 4 ?_;have I:=mZ.drew;refine aK 19 I [1] ?_;refine aL 12 ?_;refine Bg (v:=.pointer (some ⟨bA,oA+0*1,none⟩)) (i:=12) (n:=6) E kQ kQ kQ (St.del 1 I) E (wg E E E E) E E (λ_ _=>(aM E E E (fq 0 Z underlying31 kQ dQ dQ))) ?_;refine Bg (v:=.slice (some ⟨p0.1,0,none⟩) 4 4) (i:=13) (n:=5) E kQ kQ kQ (St.del 1 I) E (wg E E E E) E E (λ_ ado=>(aj E E (aG (iy M Z ado (M9 1 E O) E)))) ?_;refine aL 3 ?_;refine bg 17 ?_;refine snA 17 E 1 I kQ ?_;intro w33 qY;refine aL 3 ?_;refine zN 3 ?_;have tH:=qY.aO [1,0];exact⟨x,L8,E,hX,tH⟩
def ahL{gs:List Gr}{A:Option Addr}{c m:Nat}{cr:Bool}{s:List Ac}(hs:s=bQ gs m cr)(I:m<=1000)(J:∀g∈gs,g.ok)(w:World)(h:Rd w w.heap.size 5 A gs.length (gs.flatMap Gr.cells)):
 Calls prog 7 #[.slice A gs.length c,.int .i64 (m:Int),.bool cr] w (λe w'=> ∃A' c',e=.returned (.slice A' s.length c')/\St w.heap.size w w' [.own 51 11 (.slice A' s.length c') s.length (s.flatMap Ac.cells)]):=by
 subst hs;exact RP I J w h
def adN{l:List Ac}(h:∀a∈l,dD a=0)(I:l.length<=100000):Cx l=0:=by
 rw[Qu Y];clear I
 induction l with
 |nil=>rfl
 |cons a l J=>rw[wh,if_neg (by rw[h a mem_cons_self];simp),J λx M=>h x (mem_cons_of_mem _ M)]
def afA{s F:List Ac}{A:Option Addr}{c r:Nat}(I:F=kT s r)(J:r<=100000)(M:s.length<=100000)(w:World)(h:Rd w w.heap.size 11 A s.length (s.flatMap Ac.cells)):
 Calls prog 9 #[.slice A s.length c,.int .i64 (r:Int)] w (λe w'=> ∃A' c',e=.returned (.slice A' F.length c')/\St w.heap.size w w' [.own 51 11 (.slice A' F.length c') F.length (F.flatMap Ac.cells)]):=by
 subst I;exact Y2 J M w h
def anD{B:Nat}{w0 w:World}{fs:List J8}{A:Option Addr}{c:Nat}{F:List Ac}(I:∀a∈F,dD a=0)(J:F.length<=100000)(S:St B w0 w fs)(M:Uk B w0)(h:Ro fs 11 A F.length (F.flatMap Ac.cells)):
 Calls prog 8 #[.slice A F.length c] w (aat B w0 fs F):=adM (adN I J) S M h hQ
def svB(b:aU):Bool:=decide (b.Gq=1\/b.Gq=2)
def afB{b:aU}:svB b=true↔Nl b:=by unfold svB Nl;simp
def RX{L:List J8}{m:Cl}{j q:Nat}{p:Nat×List BX}(h:P1 L m j p)(M:q<4):∃y,p.2[q]? =some y/\y.b=(m.ah j).view q:=by
 have I:=h.bm;have hv:(vB (m.ah j).view)[q]? =some ((m.ah j).view q):=by
  have J:q=0\/q=1\/q=2\/q=3:=Y
  rcases J with rfl|rfl|rfl|rfl<;>rfl
 rw[<-I,getElem?_map]at hv
 cases h1:p.2[q]? with
 |none=>rw[h1]at hv;cases hv
 |some y=>rw[h1]at hv;exact⟨y,E,Option.some.inj hv⟩
def zG(y:BX)(w:World):
 Calls tP 18 #[.agg (bR y.b y.A y.c)] w (λe w'=>e=.returned (.bool (svB y.b))/\Below w.heap.size w w'):=by
 have S:=St.start w;refine Ht (N:=11) (vs:=[.agg (bR y.b y.A y.c)]) func18 E E E ?_;refine cw [0] ?_;refine azt (nb (row:=(bR y.b y.A y.c)) S ?_);intro b1 M h;clear S;refine va ?_;refine qk [1,2] ?_;refine WV (vv (wo 0 NS) ?_);refine vv (aj E E (aG (St.cl 0 h E E))) ?_;by_cases I:y.b.Gq=1
 ·refine vv (amv I) ?_;refine vm ?_;iterate 3 refine vs ?_
  refine vv ypT ?_;refine va ?_;refine qk [2] ?_;refine anL (pt ?_);rw[show svB y.b=true from by unfold svB;first|exact decide_eq_true Y|exact decide_eq_false Y];exact⟨E,h.Nr⟩
 refine vv (ad6 I) ?_;refine vm ?_;refine vg (wo 0 NS) ?_;refine vg (aj E E (aG (St.cl 0 h E E))) ?_;by_cases J:y.b.Gq=2
 ·refine vg (amv J) ?_;refine vv ypF ?_;refine va ?_;refine qk [2] ?_;refine anL (pt ?_);rw[show svB y.b=true from by unfold svB;first|exact decide_eq_true Y|exact decide_eq_false Y];exact⟨E,h.Nr⟩
 refine vg (ad6 J) ?_;refine vv ypF ?_;refine va ?_;refine qk [2] ?_;refine anL (pt ?_);rw[show svB y.b=false from by unfold svB;first|exact decide_eq_true Y|exact decide_eq_false Y];exact⟨E,h.Nr⟩
def qN(b:aU):Prop:=Nl b\/b.Gq=3
structure wm (m:Cl)(q o:Nat):Prop where
 lt:o<5
 me:qN ((m.ah o).view q)
 mK:∀n,n<5->n≠o->qN ((m.ah n).view q)->((m.ah n).view q).ep< ((m.ah o).view q).ep
def yL(m:Cl)(q o n:Nat)(a:Int)(one:Bool):Prop:=(a= -1/\ ∀j,j<n-> ¬qN ((m.ah j).view q))\/ ∃k:Nat,a=(k:Int)/\k<n/\qN ((m.ah k).view q)/\(∀j,j<n->qN ((m.ah j).view q)->((m.ah j).view q).ep<=((m.ah k).view q).ep)/\(o<n->k=o/\one=true)
section
variable {m:Cl}{q o n:Nat}{a:Int}{one:Bool}
def yL.skip(h:yL m q o n a one)(Z:wm m q o)(J:¬qN ((m.ah n).view q)):yL m q o (n+1) a one:=by
 have hne:o≠n:=λe=>J (e▸Z.me)
 rcases h with⟨h1,O⟩|⟨k,h1,O,h3,h4,h5⟩
 ·exact .inl ⟨h1,λj M=>(Nat.lt_succ_iff_lt_or_eq.1 M).elim (O j) (λe=>e▸J)⟩
 exact .inr ⟨k,h1,by omega,h3,λj M I=>(Nat.lt_succ_iff_lt_or_eq.1 M).elim (λh=>h4 j h I) (λe=>absurd (e▸I) J),λh=>h5 Y⟩
def yL.first(h:yL m q o n a one)(M:wm m q o)(ha:a<0)(O:qN ((m.ah n).view q)):yL m q o (n+1) (n:Int) true:=by
 rcases h with⟨h1,I⟩|⟨k,h1,I,h3,h4,h5⟩
 ·exact .inr ⟨n,E,by omega,O,λj Z J=>(Nat.lt_succ_iff_lt_or_eq.1 Z).elim (λh=>absurd J (I j h)) (λe=>e▸Int.le_refl _),λh=>⟨(Nat.lt_succ_iff_lt_or_eq.1 h).elim (λh=>absurd M.me (I o h)) Eq.symm,E⟩⟩
 omega
def yL.more{k:Nat}(h:yL m q o n (k:Int) one)(M:wm m q o)(hn:n<5)(J:qN ((m.ah n).view q))(hg:((m.ah k).view q).ep< ((m.ah n).view q).ep):yL m q o (n+1) (n:Int) true:=by
 rcases h with⟨h1,O⟩|⟨Z,h1,O,h3,h4,h5⟩
 ·omega
 obtain rfl:k=Z:=Y;refine .inr ⟨n,E,by omega,J,λj hj I=>(Nat.lt_succ_iff_lt_or_eq.1 hj).elim (λh=>by have:=h4 j h I;omega) (λe=>e▸Int.le_refl _),λh=>⟨?_,E⟩⟩
 rcases Nat.lt_succ_iff_lt_or_eq.1 h with h|h
 ·exfalso
  obtain⟨rfl,_⟩:=h5 h;by_cases e:n=k
  ·omega
  have:=M.mK n hn e J;omega
 exact h.symm
def yL.less{k:Nat}(h:yL m q o n (k:Int) one)(O:wm m q o)(hn:n<5)(hc:qN ((m.ah n).view q))(hg:¬((m.ah k).view q).ep< ((m.ah n).view q).ep):(((m.ah n).view q).ep≠((m.ah k).view q).ep->yL m q o (n+1) (k:Int) one)/\(((m.ah n).view q).ep=((m.ah k).view q).ep->yL m q o (n+1) (k:Int) false):=by
 rcases h with⟨h1,h2⟩|⟨k',h1,h2,J,Z,h5⟩
 ·omega
 obtain rfl:k=k':=Y;have Nc:o≠n:=by
  rintro rfl;have:=O.mK k Y Y J;omega
 refine⟨λ_=>.inr ⟨k,E,by omega,J,λj M I=>(Nat.lt_succ_iff_lt_or_eq.1 M).elim (λh=>Z j h I) (λe=>by subst e;omega),λh=>h5 Y⟩,λhe=>.inr ⟨k,E,by omega,J,λj M I=>(Nat.lt_succ_iff_lt_or_eq.1 M).elim (λh=>Z j h I) (λe=>by subst e;omega),λh=>?_⟩⟩;obtain⟨rfl,_⟩:=h5 Y;have:=O.mK n hn (λe=>Nc e.symm) hc;omega
def yL.done(h:yL m q o 5 a one)(I:wm m q o):a=(o:Int)/\one=true:=by
 rcases h with⟨h1,J⟩|⟨k,h1,J,Z,h4,M⟩
 ·exact absurd I.me (J o I.lt)
 obtain⟨rfl,O⟩:=M I.lt;exact⟨h1,O⟩
end
def zW{B:Nat}{w0 w:World}{fs L:List J8}{m:Cl}{x:OX}{q o:Nat}(hq:q<4)(hA:wm m q o)(S:St B w0 w fs)(hX:XH L m x)(O:∀f∈L,f∈fs):
 Calls prog 12 #[.agg (oX x),.int .i64 (q:Int)] w (λe w'=>e=.returned (.tuple #[.int .i64 (o:Int),.bool true])/\St B w0 w' fs):=by
 refine gP 64 func12 ?_;refine cw [0,1] ?_;refine zN 2 ?_;refine iU S ?_;intro b1 w2 S3;refine zN 5 ?_;obtain⟨ps,hpl,WJ,hp1⟩:=hX.ps;obtain⟨bA,oA,hBa⟩:=yH WJ S3 (M9 1 E O) dQ;refine zN 16 ?_;refine fJ (X:=Nat×Int×Bool) (λxv=>[(1,.int .i64 (q:Int)),(2,.pointer (some ⟨b1,0,none⟩)),(4,.int .i64 0),(5,.bool false),(6,.int .i64 xv.2.1),(7,.bool xv.2.2),(8,.int .i64 (xv.1:Int))]) (λxv wr=>(xv.1<=5)/\(yL m q o xv.1 xv.2.1 xv.2.2)/\St B w0 wr ((.Mg b1 (oX x) 35)::fs)) (λxv=>5-xv.1) (0,(-1),true) ?_ ?_ ?_
 ·exact⟨zero_le _,(.inl ⟨E,λj hj=>absurd hj (not_lt_zero _)⟩),S3⟩
 ·exact uj
 rintro⟨n,a,one⟩ w4 ⟨hi6,I,S5⟩
 try dsimp only at hi6 I S5
 refine bI (l':=[(1,.int .i64 (q:Int)),(2,.pointer (some ⟨b1,0,none⟩)),(4,.int .i64 0),(5,.bool false),(6,.int .i64 a),(7,.bool one),(8,.int .i64 (n:Int))]) uj (aQ (aQ (aC (vm ?_))));refine zN 3 ?_;by_cases h8:(n:Int)<5
 ·refine zN 9 ?_;obtain⟨p,hp⟩:∃p,ps[n]? =some p:=⟨_,getElem?_eq_getElem Y⟩;have hpp:=hp1 _ _ hp;obtain⟨y,hy,J⟩:=RX hpp (q:=q) Y;refine zN 4 ?_;refine vv (v:=.pointer (some ⟨bA,oA+n*1,none⟩)) (aM E E E (fq n hBa underlying31 kQ E Y)) ?_;refine vv (v:=.slice (some ⟨p.1,0,none⟩) 4 4) (aj E E (aG (iy WJ hBa S5 (M9 1 E O) (bE (enc:=gL) (sz:=1) (k:=n) (j:=0) (λ_=>E) hp E)))) ?_;refine zQ ?_;refine vv (ko q) ?_;refine vv (v:=.agg #[.int .i64 y.b.Gq,.int .i64 y.b.ep,.int .i64 y.b.fr,.int .i64 y.b.tg,.int .i64 y.b.rd,.slice y.A y.b.Gs.length y.c]) (aj E E (dP (cs:=BX.cells y) (λj u hu=>by rw[Nat.add_assoc];exact iy hpp.rd E S5 (M9 1 E O) (bE (enc:=BX.cells) (sz:=6) (k:=q) (λ_=>E) hy hu)))) ?_;refine gD S5 fZ ?_;intro b9 ZL Ay;refine sa 0 Ay kQ ?_;intro w12 Ld;refine zN 6 ?_
  rcases XI:svB y.b with _|_
  ·have hns:¬Nl y.b:=λhh=>by rw[afB.2 hh]at XI;cases XI
   by_cases hr3:y.b.Gq=3
   ·have M:qN ((m.ah n).view q):=by rw[<-J];exact .inr hr3
    have HV:=λw=>zG y w;rw[XI]at HV;refine Rq eQ Ld (HV _) ?_;intro JR o8;refine zN 11 ?_
    rcases Int.lt_or_le a 0 with Z|Z
    ·refine zQ ?_;refine fu o8 mixed kQ ?_;refine zN 16 ?_;refine eP λw22 tJ=>?_;refine zN 15 ?_;refine vv (v:=.int .i64 ((n+1:Nat):Int)) iI ?_;refine zN 2 ?_;have kF:=tJ.aO [0];refine bC (n+1,(n:Int),true) ?_ uj (by first|omega|(dsimp only;omega));exact⟨Y,(yL.first I hA Z M),kF⟩
    obtain⟨k,rfl⟩:=Int.eq_ofNat_of_zero_le Z;have hk5:k<5:=by rcases I with⟨e,_⟩|⟨k2,e,hk2,_⟩<;>omega
    obtain⟨p2,hp2⟩:∃p,ps[k]? =some p:=⟨_,getElem?_eq_getElem Y⟩;have Fq:=hp1 _ _ hp2;obtain⟨y2,hy2,h⟩:=RX Fq (q:=q) Y;refine zQ ?_;refine fu o8 mixed kQ ?_;refine zQ ?_;by_cases h26:(k:Int)<0
    ·refine zN 15 ?_;refine eP λVX oW=>?_;refine zN 15 ?_;refine vv (v:=.int .i64 ((n+1:Nat):Int)) iI ?_;refine zN 2 ?_;have uw:=oW.aO [0];refine bC (n+1,(n:Int),true) ?_ uj (by first|omega|(dsimp only;omega));exact⟨Y,(yL.more I hA Y M (by rw[<-J,<-h];omega)),uw⟩
    refine zN 7 ?_;refine ug (v:=.pointer (some ⟨bA,oA+k*1,none⟩)) (λ_ _=>(aM E E E (fq k hBa underlying31 kQ E Y))) ?_;refine ug (v:=.slice (some ⟨p2.1,0,none⟩) 4 4) (λ_ ao1=>(aj E E (aG (iy WJ hBa ao1 (M9 2 E O) (bE (enc:=gL) (sz:=1) (k:=k) (j:=0) (λ_=>E) hp2 E))))) ?_;refine zQ ?_;refine ug (λ_ _=>ko q) ?_;refine zQ ?_;refine ug (v:=.int .i64 y2.b.ep) (λ_ aEo=>(aj E E (aG (by rw[Nat.add_assoc];exact iy Fq.rd E aEo (M9 2 E O) (bE (enc:=BX.cells) (sz:=6) (k:=q) (j:=1) (λ_=>E) hy2 E))))) ?_;by_cases h46:y2.b.ep<y.b.ep
    ·refine zN 2 ?_;refine eP λw49 wu=>?_;refine zN 15 ?_;refine vv (v:=.int .i64 ((n+1:Nat):Int)) iI ?_;refine zN 2 ?_;have vk:=wu.aO [0];refine bC (n+1,(n:Int),true) ?_ uj (by first|omega|(dsimp only;omega));exact⟨Y,(yL.more I hA Y M (by rw[<-J,<-h];omega)),vk⟩
    refine zN 2 ?_;refine eP λw54 vo=>?_;refine zN 3 ?_;refine fu vo mixed kQ ?_;refine zN 5 ?_;refine uv (v:=.pointer (some ⟨bA,oA+k*1,none⟩)) (λ_ _=>(aM E E E (fq k hBa underlying31 kQ E Y))) ?_;refine uv (v:=.slice (some ⟨p2.1,0,none⟩) 4 4) (λ_ aEp=>(aj E E (aG (iy WJ hBa aEp (M9 2 E O) (bE (enc:=gL) (sz:=1) (k:=k) (j:=0) (λ_=>E) hp2 E))))) ?_;refine zQ ?_;refine uv (λ_ _=>ko q) ?_;refine zQ ?_;refine uv (v:=.int .i64 y2.b.ep) (λ_ ao2=>(aj E E (aG (by rw[Nat.add_assoc];exact iy Fq.rd E ao2 (M9 2 E O) (bE (enc:=BX.cells) (sz:=6) (k:=q) (j:=1) (λ_=>E) hy2 E))))) ?_;by_cases Ci:y.b.ep=y2.b.ep
    ·refine zQ ?_;refine eP λw69 yK=>?_;refine zN 9 ?_;refine vv (v:=.int .i64 ((n+1:Nat):Int)) iI ?_;refine zN 2 ?_;have rX:=yK.aO [0];refine bC (n+1,(k:Int),false) ?_ uj (by first|omega|(dsimp only;omega));exact⟨Y,((yL.less I hA Y M (by rw[<-J,<-h];omega)).2 (by rw[<-J,<-h];omega)),rX⟩
    refine zQ ?_;refine eP λw73 Lc=>?_;refine zN 7 ?_;refine vv (v:=.int .i64 ((n+1:Nat):Int)) iI ?_;refine zN 2 ?_;have Em:=Lc.aO [0];refine bC (n+1,(k:Int),one) ?_ uj (by first|omega|(dsimp only;omega));exact⟨Y,((yL.less I hA Y M (by rw[<-J,<-h];omega)).1 (by rw[<-J,<-h];omega)),Em⟩
   have M:¬qN ((m.ah n).view q):=by rw[<-J];exact λhh=>hh.elim hns hr3
   have HV:=λw=>zG y w;rw[XI]at HV;refine Rq eQ Ld (HV _) ?_;intro w76 DC;refine zN 15 ?_;refine vv (v:=.int .i64 ((n+1:Nat):Int)) iI ?_;refine zN 2 ?_;have BZ:=DC.aO [0];refine bC (n+1,a,one) ?_ uj (by first|omega|(dsimp only;omega));exact⟨Y,(yL.skip I hA M),BZ⟩
  have M:qN ((m.ah n).view q):=by rw[<-J];exact .inl (afB.1 XI)
  have HV:=λw=>zG y w;rw[XI]at HV;refine Rq eQ Ld (HV _) ?_;intro w80 uo;refine zN 11 ?_
  rcases Int.lt_or_le a 0 with Z|Z
  ·refine zQ ?_;refine fu uo mixed kQ ?_;refine zN 16 ?_;refine eP λw87 JQ=>?_;refine zN 15 ?_;refine vv (v:=.int .i64 ((n+1:Nat):Int)) iI ?_;refine zN 2 ?_;have JM:=JQ.aO [0];refine bC (n+1,(n:Int),true) ?_ uj (by first|omega|(dsimp only;omega));exact⟨Y,(yL.first I hA Z M),JM⟩
  obtain⟨k,rfl⟩:=Int.eq_ofNat_of_zero_le Z;have hk5:k<5:=by rcases I with⟨e,_⟩|⟨k2,e,hk2,_⟩<;>omega
  obtain⟨p2,hp2⟩:∃p,ps[k]? =some p:=⟨_,getElem?_eq_getElem Y⟩;have Fq:=hp1 _ _ hp2;obtain⟨y2,hy2,h⟩:=RX Fq (q:=q) Y;refine zQ ?_;refine fu uo mixed kQ ?_;refine zQ ?_;by_cases FX:(k:Int)<0
  ·refine zN 15 ?_;refine eP λw95 DK=>?_;refine zN 15 ?_;refine vv (v:=.int .i64 ((n+1:Nat):Int)) iI ?_;refine zN 2 ?_;have DJ:=DK.aO [0];refine bC (n+1,(n:Int),true) ?_ uj (by first|omega|(dsimp only;omega));exact⟨Y,(yL.more I hA Y M (by rw[<-J,<-h];omega)),DJ⟩
  refine zN 7 ?_;refine ug (v:=.pointer (some ⟨bA,oA+k*1,none⟩)) (λ_ _=>(aM E E E (fq k hBa underlying31 kQ E Y))) ?_;refine ug (v:=.slice (some ⟨p2.1,0,none⟩) 4 4) (λ_ axM=>(aj E E (aG (iy WJ hBa axM (M9 2 E O) (bE (enc:=gL) (sz:=1) (k:=k) (j:=0) (λ_=>E) hp2 E))))) ?_;refine zQ ?_;refine ug (λ_ _=>ko q) ?_;refine zQ ?_;refine ug (v:=.int .i64 y2.b.ep) (λ_ axN=>(aj E E (aG (by rw[Nat.add_assoc];exact iy Fq.rd E axN (M9 2 E O) (bE (enc:=BX.cells) (sz:=6) (k:=q) (j:=1) (λ_=>E) hy2 E))))) ?_;by_cases Dl:y2.b.ep<y.b.ep
  ·refine zN 2 ?_;refine eP λaif qx=>?_;refine zN 15 ?_;refine vv (v:=.int .i64 ((n+1:Nat):Int)) iI ?_;refine zN 2 ?_;have wP:=qx.aO [0];refine bC (n+1,(n:Int),true) ?_ uj (by first|omega|(dsimp only;omega));exact⟨Y,(yL.more I hA Y M (by rw[<-J,<-h];omega)),wP⟩
  refine zN 2 ?_;refine eP λanY sM=>?_;refine zN 3 ?_;refine fu sM mixed kQ ?_;refine zN 5 ?_;refine uv (v:=.pointer (some ⟨bA,oA+k*1,none⟩)) (λ_ _=>(aM E E E (fq k hBa underlying31 kQ E Y))) ?_;refine uv (v:=.slice (some ⟨p2.1,0,none⟩) 4 4) (λ_ axO=>(aj E E (aG (iy WJ hBa axO (M9 2 E O) (bE (enc:=gL) (sz:=1) (k:=k) (j:=0) (λ_=>E) hp2 E))))) ?_;refine zQ ?_;refine uv (λ_ _=>ko q) ?_;refine zQ ?_;refine uv (v:=.int .i64 y2.b.ep) (λ_ axP=>(aj E E (aG (by rw[Nat.add_assoc];exact iy Fq.rd E axP (M9 2 E O) (bE (enc:=BX.cells) (sz:=6) (k:=q) (j:=1) (λ_=>E) hy2 E))))) ?_;by_cases aD0:y.b.ep=y2.b.ep
  ·refine zQ ?_;refine eP λan5 GN=>?_;refine zN 9 ?_;refine vv (v:=.int .i64 ((n+1:Nat):Int)) iI ?_;refine zN 2 ?_;have GL:=GN.aO [0];refine bC (n+1,(k:Int),false) ?_ uj (by first|omega|(dsimp only;omega));exact⟨Y,((yL.less I hA Y M (by rw[<-J,<-h];omega)).2 (by rw[<-J,<-h];omega)),GL⟩
  refine zQ ?_;refine eP λatM Dg=>?_;refine zN 7 ?_;refine vv (v:=.int .i64 ((n+1:Nat):Int)) iI ?_;refine zN 2 ?_;have Df:=Dg.aO [0];refine bC (n+1,(k:Int),one) ?_ uj (by first|omega|(dsimp only;omega));exact⟨Y,((yL.less I hA Y M (by rw[<-J,<-h];omega)).1 (by rw[<-J,<-h];omega)),Df⟩
 refine zN 19 ?_;obtain rfl:n=5:=Y;obtain⟨rfl,rfl⟩:=yL.done I hA;have anT:=S5.aO [0];exact⟨E,anT⟩
def yfb{N:Nat}{l:Nj}{o:Oper}{w:World}{x:Operand}{s:TypeId}{f b o0:Nat}(h:Nat)(I:o.op=.fieldAddr s x f:=by exact E)(J:ev l x=some (.pointer (some ⟨b,o0,none⟩)):=by exact E)(M:∀(b o:Nat) (w:World),(Instr.fieldAt s (.pointer (some ⟨b,o,none⟩)) f).run tP w=.ok (.pointer (some ⟨b,o+(h-o0),none⟩)) w:=by(intro _ _ _;kernel_rfl))(he:o0+(h-o0)=h:=by exact E):jr tP N l o w (.pointer (some ⟨b,h,none⟩)):=wo h M I J he
section
variable {Q Q2 Q3 y:Qd}{l:List jJ}{i j k:Nat}{a b:jJ}{e:Ev}
def ME(Q Q':Qd):Prop:=Q.ep<Q'.ep\/Q.ep=Q'.ep/\Q.gv<=Q'.gv
def ME.refl:ME Q Q:=.inr ⟨E,Int.le_refl _⟩
def ME.trans(h:ME Q Q2)(I:ME Q2 Q3):ME Q Q3:=by unfold ME at*;omega
def ahM:ME Q (Nu Q e).1/\(Nu Q e).1.ep<=Q.ep+1:=by
 have same:∀ {Q':Qd},Q'.ep=Q.ep->Q.gv<=Q'.gv->ME Q Q'/\Q'.ep<=Q.ep+1:=λh1 I=>⟨.inr ⟨h1.symm,I⟩,by omega⟩;have h:=same (Q':=Q) E (Int.le_refl _);unfold Nu
 split
 ·unfold BU
  split; · exact h
  split; · exact h
  split; · exact h
  exact same E (Int.le_refl _)
 split
 ·unfold GA
  split; · exact h
  split; · exact h
  exact same E uQ
 split
 ·unfold EL
  split; · exact h
  split; · exact h
  exact same E (Int.le_refl _)
 unfold EM
 split; · exact h
 exact⟨.inl uQ,Int.le_refl _⟩
end
section
variable {m:Cl}{q n k:Nat}{g:Gh}
def LW.axQ(h:LW m q g k)(hn:n<5)(J:((m.ah n).view q).Gq=3):((m.ah n).view q).ep<=g.m/\(((m.ah n).view q).ep=g.m->n=g.o):=by
 have I:=h.qi;by_cases e:n=g.o
 ·subst e;have:=I.ru;unfold vw at this;exact⟨by omega,λ_=>E⟩
 have:=I.mK n hn e;unfold vw at this
 rcases this with⟨h1,_⟩|⟨k,h1,M,O,Z,_⟩|⟨k,h1,_⟩<;>exact⟨by omega,λ_=>by omega⟩
def LW.aP(h:LW m q g k)(hn:n<5)(hs:Nl ((m.ah n).view q)):n=g.o/\((m.ah n).view q).ep=g.m:=by
 have I:=h.qi;have e:=QC.who I hn hs;have:=I.ru;unfold vw at this;rw[<-e]at this;exact⟨e,this⟩
def LW.auth(h:LW m q g k):wm m q g.o:=by
 have I:=h.qi;have h1:=I.zS;have O:=I.ru;unfold vw at h1 O;refine⟨I.o5,?_,λn hn J M=>?_⟩
 ·unfold qN Nl;omega
 rcases M with M|M
 ·exact absurd (h.aP hn M).1 J
 obtain⟨h3,Z⟩:=h.axQ hn M;have:((m.ah n).view q).ep≠g.m:=λe=>J (Z e);omega
end
end Go.Proofs.YtefabpdniidmbaaGreatDoor
