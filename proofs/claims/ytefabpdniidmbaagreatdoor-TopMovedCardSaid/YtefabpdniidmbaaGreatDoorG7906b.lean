import Derived.Test.YtefabpdniidmbaaGreatDoorG2bb61
import Derived.Test.YtefabpdniidmbaaGreatDoorG9b0b6
import Derived.Test.YtefabpdniidmbaaGreatDoorGa280f
set_option linter.all false
set_option maxRecDepth 100000
set_option maxHeartbeats 8000000
namespace Go.Proofs.YtefabpdniidmbaaGreatDoor
open List Nat Go.Proofs.Tryz ChangeShapes WideShapes RowKit
def aeb{B I n turn dc:Nat}{up:Bool}{J:Option Addr}{data:List UInt8}{OY:Int}{Hh:Nat->Pl}{Us:Nat->Bool}{bv iv pv:Value}{w0 w:World}{fs:List OJ}{L:List OJ}{rs:List dN}{RA:Option Addr}{rc:Nat}(hw:gH data OY rs=none)(M:Ro fs 10 RA rs.length (rs.flatMap dN.cells))(O:Ro L 1 J data.length (Jq data))(hL:∀f∈L,f∈fs)(Z:rs.length<=1000000)(S:St B w0 w ((.Oy I (eP n up (.slice J data.length dc) OY bv Hh Us iv pv turn) 105)::fs)):
 Calls tP 44 #[pV I 0,.slice RA rs.length rc] w (λe w'=>e=.returned (.bool false)/\St B w0 w' ((.Oy I (eP n up (.slice J data.length dc) OY bv Hh Us iv pv turn) 105)::fs)):=(Ja (rc:=rc) M O hL Z S).mono λe w' h=>h.elim (λh=>h.2) λ⟨_,_,_,_,h,_⟩=>by rw[hw]at h;cases h
def aec{B I n turn dc:Nat}{up:Bool}{Z:Option Addr}{data:List UInt8}{OY:Int}{Hh:Nat->Pl}{Us:Nat->Bool}{bv iv pv:Value}{w0 w:World}{fs:List OJ}{L:List OJ}{d':List UInt8}{rs:List dN}{RA:Option Addr}{rc:Nat}(hw:gH data OY rs=some d')(J:Ro fs 10 RA rs.length (rs.flatMap dN.cells))(M:Ro L 1 Z data.length (Jq data))(hL:∀f∈L,f∈fs)(O:rs.length<=1000000)(S:St B w0 w ((.Oy I (eP n up (.slice Z data.length dc) OY bv Hh Us iv pv turn) 105)::fs)):
 Calls tP 44 #[pV I 0,.slice RA rs.length rc] w (λe w'=> ∃A' c' N,e=.returned (.bool true)/\Ro (L++N) 1 A' d'.length (Jq d')/\St B w0 w' ((.Oy I (eP n up (.slice A' d'.length c') OY bv Hh Us iv pv turn) 105)::(fs++N))):=(Ja (rc:=rc) J M hL O S).mono λe w' h=>h.elim (λh=>by rw[hw]at h;cases h.1) λ⟨d2,A',c',N,h,h1,h2,h3⟩=>by
 rw[hw]at h
 cases h;exact⟨A',c',N,h1,h2,h3⟩
def aj3{kn kw:Nat}{L:List OJ}:∀ {p:Option dh} {v:Value},sj kn kw L p v->v.oneCell'=true
 |none,v,h=>by
  have I:v=.nilFunc:=h;subst I;rfl
 |some p,v,h=>by
  obtain⟨f,xs,ys,rfl⟩:=M9 h;rfl
def aAW{me turn:Nat}{up:Bool}{tv bv iv pv:Value}{OY:Int}{H:Nat->Pl}{U:Nat->Bool}(h1:tv.oneCell'=true)(I:bv.oneCell'=true)(J:iv.oneCell'=true)(M:pv.oneCell'=true):∀u∈(eP me up tv OY bv H U iv pv turn).toList,u.oneCell'=true:=by
 intro u h;simp only[eP,mem_cons,not_mem_nil,or_false]at h
 rcases h with rfl|rfl|rfl|rfl|rfl|rfl|rfl|rfl|rfl|rfl|rfl|rfl|rfl|rfl|rfl|rfl|rfl|rfl|rfl|rfl<;>first|rfl|assumption
section
variable {V:Nat->bC}{k n:Nat}{s:Int}{d d':List UInt8}{bs ws:List BX}{L:List OJ}{m mm md:Cl}{X:Nd}{y x:BX}{b:bC}{H:List LX}{q:Nat}{p:dh}{m':Cl}{l:bO}
def Sb(I:∀y∈bs,y.b.Jp.length<=y.c)(y:BX)(h:y∈bs):Eo (gT bs) y:=⟨Ro.dR (pJ.2 ⟨y,h,E⟩),I y h⟩
def Zd(h:bs.map BX.b=vB V)(J:k<4):∃y,bs[k]? =some y/\y.b=V k:=by
 have M:bs.length=4:=by have:=bP length h;simpa[vB]using this
 refine⟨bs[k],eT Y,?_⟩;have h1:(bs.map BX.b)[k]? =some (bs[k]).b:=by rw[vX,eT Y];rfl
 rw[h]at h1;have I:k=0\/k=1\/k=2\/k=3:=Y
 rcases I with rfl|rfl|rfl|rfl<;>(simp only[vB]at h1;exact(AU h1).symm)
def avl:vB V=vB (λj=>if j<0/\(V j).F9=1 then(gW (V j)).1 else V j):=Db λj _=>by rw[ah Y]
def af2(h:¬(V k).F9=1):vB (λj=>if j<k/\(V j).F9=1 then(gW (V j)).1 else V j)=vB (λj=>if j<k+1/\(V j).F9=1 then(gW (V j)).1 else V j):=Db λj _=>by
 by_cases e:j=k
 ·subst e;rw[ah (λI=>h I.2),ah (λI=>h I.2)]
 by_cases J:j<k/\(V j).F9=1
 ·rw[au J,au ⟨by omega,J.2⟩]
 rw[ah J,ah (λI=>J ⟨by omega,I.2⟩)]
def af3(I:k<4)(J:(V k).F9=1)(M:(gW (V k)).1=b):(vB (λj=>if j<k/\(V j).F9=1 then(gW (V j)).1 else V j)).set k b=vB (λj=>if j<k+1/\(V j).F9=1 then(gW (V j)).1 else V j):=by
 rw[YX I];refine Db λj _=>?_;by_cases e:j=k
 ·subst e;rw[Jo,au ⟨by omega,J⟩,M]
 rw[Ox e];by_cases h:j<k/\(V j).F9=1
 ·rw[au h,au ⟨by omega,h.2⟩]
 rw[ah h,ah (λO=>h ⟨by omega,O.2⟩)]
def af4{r:List Nat}(h:¬(V k).F9=1):gU s V (k::r) d=gU s V r d:=by rw[gU,au h]
def af5{r:List Nat}(h:(V k).F9=1)(h1:(gW (V k)).2=0)(I:gH d s [gZ 2 k (V k).ep 0 bg]=some d'):gU s V (k::r) d=gU s V r d':=by
 rw[gU,ah (λe=>e h),ah (λe=>e h1),I]
def aj4{r:List Nat}(h:(V k).F9=1)(h1:¬(gW (V k)).2=0):gU s V (k::r) d=none:=by rw[gU,ah (λe=>e h),au h1]
def aj5{r:List Nat}(h:(V k).F9=1)(I:gH d s [gZ 2 k (V k).ep 0 bg]=none):gU s V (k::r) d=none:=by
 rw[gU,ah (λe=>e h)]
 split
 ·rfl
 rw[I]
def Nf:∀ {M:List Nat} {d d':List UInt8},gU s V M d=some d'-> ∀q∈M,(V q).F9=1->ay (rD (V q))=0/\gW (V q)=(rD (V q),0)
 |[],d,d',h,q,I,_=>by simp at I
 |k::r,d,d',h,q,I,J=>by
  rw[gU]at h;by_cases c1:(V k).F9≠1
  ·rw[au c1]at h
   rcases iq.1 I with rfl|I
   ·exact av J c1
   exact Nf h q I J
  rw[ah c1]at h;by_cases c2:(gW (V k)).2≠0
  ·rw[au c2]at h;cases h
  rw[ah c2]at h
  split at h
  ·cases h
  rcases iq.1 I with rfl|I
  ·exact acD J c2
  exact Nf h q I J
def af6(h:gU s V [0,1,2,3] d=some d')(q:Nat)(J:q<4):(V q).F9=1->ay (rD (V q))=0/\gW (V q)=(rD (V q),0):=Nf h q (by
 have I:q=0\/q=1\/q=2\/q=3:=Y
 rcases I with rfl|rfl|rfl|rfl<;>decide)
def aj6(hw:(V k).F9=1->ay (rD (V k))=0/\gW (V k)=(rD (V k),0))(h:x.b=if k<4/\(V k).F9=1 then(gW (V k)).1 else V k)(I:¬x.b.F9=1):¬(V k).F9=1:=λe=>I (by
 rw[h]
 split
 ·rw[(hw e).2];rfl
 exact e)
def aj7(J:x.b=if k<4/\(V k).F9=1 then(gW (V k)).1 else V k)(I:x.b.F9=1):(V k).F9=1:=by
 by_cases c:(V k).F9=1
 ·exact c
 rw[J,ah (λh=>c h.2)]at I;exact I
def abu{r:List Nat}(h:¬(V k).F9=1):Cl.TY n V (k::r) mm=Cl.TY n V r mm:=by rw[Cl.TY,au h]
def abv{r:List Nat}(h:(V k).F9=1)(I:md=((mm.recover n k).aC n k (gW (V k)).1).Ug n k bg iX (-1)):Cl.TY n V (k::r) mm=Cl.TY n V r md:=by rw[Cl.TY,ah (λe=>e h),I]
def af7{q:Nat}(h:mm.aj n=X):(mm.aC n q b).Ug n q bg iX (-1)={mm.put n (X.aC q b)with bG:=mm.bG++[⟨n,q,b.ep,bg,iX,-1⟩],PU:=kM mm.PU n q (b.ep,(b.Jp.length:Int))}:=by
 subst h;have e:((mm.aC n q b).aj n).bs q=b:=by
  show(PN mm.aj n _ n).bs q=b
  rw[Jo];exact Jo _ _ _
 unfold Cl.Ug;rw[e];rfl
def aor(h:∀q,q<4->ay (X.bs q)=0)(I:ay b=0)(j:Nat)(J:j<4):ay ((X.aC k b).bs j)=0:=by
 show ay (PN X.bs k b j)=0
 by_cases e:j=k
 ·rw[e,Jo];exact I
 rw[Ox e];exact h j J
def LJ{f:Nat->Nat->Int×Int}{a q:Nat}{e:Int}{l:List Ev}(h:∀a b,0<=(f a b).2)(i j:Nat):0<=(kM f a q (e,(l.length:Int)) i j).2:=by
 unfold kM
 split
 ·exact Int.natCast_nonneg _
 exact h i j
def Jg(m:Cl)(n q:Nat)(h:∀a b,0<=(m.PU a b).2):(m.recover n q).aj=m.aj/\(m.recover n q).OM=m.OM/\ ∀a b,0<=((m.recover n q).PU a b).2:=by
 have tl:∀(m:Cl) e a u,(∀a b,0<=(m.PU a b).2)-> ∀i j,0<=((m.Ug n q e a u).PU i j).2:=λm e a u h=>LJ h;have rc:∀(il:List Nat) (m:Cl) Jp an,(∀a b,0<=(m.PU a b).2)->(m.recovered n q Jp an il).aj=m.aj/\(m.recovered n q Jp an il).OM=m.OM/\ ∀i j,0<=((m.recovered n q Jp an il).PU i j).2:=by
  intro il
  induction il with
  |nil=>intro m Jp an h;exact⟨E,E,h⟩
  |cons i r I=>
   intro m Jp an h;rw[Cl.recovered];exact I _ Jp an (tl m _ _ _ h)
 unfold Cl.recover
 split
 ·exact⟨E,E,tl m _ _ _ h⟩
 exact rc _ m _ _ h
def aj8(h:(m.aj n).up=true):m.start n=m:=au h
def WW(I:m.aj n=X)(J:X.up=false)(h:gU (lH X.data X.OY).2.1 (dK X.data X.OY) [0,1,2,3] (lH X.data X.OY).1=none):m.start n=m:=by
 subst I;unfold Cl.start;rw[ah (by rw[J];simp),h]
def af8(I:m.aj n=X)(J:X.up=false)(h:gU (lH X.data X.OY).2.1 (dK X.data X.OY) [0,1,2,3] (lH X.data X.OY).1=some d):
 m.start n=Cl.TY n (dK X.data X.OY) [0,1,2,3] (m.put n {X.blank with up:=true,data:=d,OY:=(d.length:Int),bs:=dK X.data X.OY}):=by
 subst I;unfold Cl.start;rw[ah (by rw[J];simp),h]
def hwl(ws:List BX):List LX:=ws.map λy=>⟨{Jp:=y.b.Jp},y.A,y.c⟩
def avm(h:∀u∈hwl ws++H,UN L u)(I:ws[k]? =some x):Eo L x:=h ⟨{Jp:=x.b.Jp},x.A,x.c⟩ (bM _ (pJ.2 ⟨x,jN I,E⟩))
def aos{P:LX->Prop}(h:∀y∈ws,P ⟨{Jp:=y.b.Jp},y.A,y.c⟩):∀u∈hwl ws++H,u∈H\/P u:=λu I=>(aP.1 I).elim (λh1=>by obtain⟨y,J,rfl⟩:=pJ.1 h1;exact .inr (h y J)) .inl
def Eo.more{N:List OJ}(h:Eo L x):Eo (L++N) x:=h.mono λ_ I=>bM _ I
def aj9{K:CK}{B:Nat}{w0 w:World}{fs:List OJ}(h:Wd K B w0 w fs m (hwl ws++H)):Wd K B w0 w fs m H:=by
 obtain⟨R,G,S⟩:=h;exact⟨R,⟨G.OM,G.flo,G.jH,G.arr,λu I=>G.hld u (aK _ I)⟩,S⟩
def aHt{mP N Ls:List OJ}{f:OJ}(h:f∈mP):f∈L++((mP++N)++Ls):=aK _ (bM _ (bM _ h))
def aHu{mP Ls:List OJ}{f:OJ}(h:f∈mP):f∈L++(mP++Ls):=aK _ (bM _ h)
def Yy{K:CK}{B n kn kw:Nat}{w0 w:World}{fs:List OJ}{m:Cl}{H:List LX}(hn:n<5)(hkn:K.nb n=kn)(jC:K.wb=kw)(hu:Uk B w0)(hB1:m.OM.length<=1000000000)(hB2:m.bG.length<=900000000000)(HW:Wd K B w0 w fs m H)(hT:Fb (m.aj n).data (m.aj n).OY=some (vB (dK (m.aj n).data (m.aj n).OY)))(hvv:∀q,q<4->ay (dK (m.aj n).data (m.aj n).OY q)=0)(hbz:(xA (lH (m.aj n).data (m.aj n).OY).1 (lH (m.aj n).data (m.aj n).OY).2.1).1.length*80<=reachBytes)(hmay:∀d,gU (lH (m.aj n).data (m.aj n).OY).2.1 (dK (m.aj n).data (m.aj n).OY) [0,1,2,3] (lH (m.aj n).data (m.aj n).OY).1=some d->dX d (lH (m.aj n).data (m.aj n).OY).2.1=true)(hsh:∀a b,0<=(m.PU a b).2):
 Calls tP 37 #[pV kw 0,pV kn 0] w (λe w'=>e=.returned (.tuple #[])/\Wd K B w0 w' fs (m.start n) H):=by
 obtain⟨R,G,S0⟩:=HW.open hn;have hfl:R.fx.length=m.OM.length:=by rw[<-G.OM,iE]
 have NG:=G.jH n hn;obtain⟨X,hX⟩:∃X,m.aj n=X:=⟨_,E⟩;obtain⟨z,hz⟩:∃z,R.nx n=z:=⟨_,E⟩;rw[hX,hz]at S0 NG;have hL:∀f∈R.L,f∈iW K R m fs n:=λf h=>aK _ (aK _ h);obtain⟨rr,hrr⟩:∃r,iW K R m fs n=r:=⟨_,E⟩;rw[hrr]at S0 hL;have S:St B w0 w (cN kn n X z z.pv (cF kw R m rr)):=by subst hkn;subst jC;exact S0
 clear S0 HW;have hlen:=(S.own 1 E).1;rw[jI (sz:=6) (λ_=>E)]at hlen;have aHv:z.pv.oneCell'=true:=aj3 NG.nQ;obtain⟨P1,hP1⟩:∃r,lH X.data X.OY=r:=⟨_,E⟩;rw[hX]at hT hvv hbz hmay;have HRd:=λw h=>Kw z.tA z.tc X.data X.OY w h hT hbz;rw[hP1]at HRd hmay;refine jc 113 func37 ?_;refine cw [0,1] ?_;refine zN 9 ?_
 cases hb1:(X.up)
 ·refine cB (l':=[(0,pV kw 0),(1,pV kn 0),(18,.bool false)]) Ip (oF E (uh (jD (bH (aL (vm ?_))))));refine zN 2 ?_;refine vv (aA E E (fu (cs:=[.slice z.tA X.data.length z.tc,D X.OY]) (St.rg 0 S E (u6)))) ?_;refine dZ eQ (HRd _ (NG.Al.rd S (PO 7 E hL))) ?_;rintro _ w9 ⟨A2,c3,bB,bs,hbm,hbl,hbc,rfl,T8⟩;refine⟨_,E,?_⟩;have Fx:=S.ext T8 (by simp[Na,OJ.Kz]);have EJ:St B w0 w9 ((oB bB bs)::(.dR 1 A2 P1.1.length (Jq P1.1))::(cN kn n X z z.pv (cF kw R m (rr++gT bs)))):=St.perm Fx (Perm.cons _ (Perm.cons _ (AO (l₁:=gT bs))));clear S;refine zN 3 ?_;refine iU EJ BM ?_;intro b12 Fy pz;refine stA 0 pz kQ ?_;intro NP tO;refine zN 6 ?_;refine dZ eQ (adI _ 4 4 (bs.flatMap BX.cells) _ (St.Uz 1 tO E) (anW _) dQ) ?_;rintro _ Iz ⟨A17,I,rfl,aHw,aHx⟩;refine⟨_,E,?_⟩;have l6:=tO.wT aHw aHx;obtain⟨wB,hWA⟩:=GQ (l6.own 0 E) dQ;subst hWA;refine zN 8 ?_;refine iU l6 azM ?_;intro CZ QL nH;refine stA 0 nH kQ ?_ (h1:=by exact aAW E E E aHv);intro Pt vJ;refine zN 6 ?_;refine kZ (row':=eP n X.up (.slice A2 P1.1.length c3) P1.2.1 (.slice (aD z.bb 0) 4 4) X.PS X.PZ (.slice z.iA z.ix.length z.ic) (z.pv) X.turn) 0 vJ kQ ?_;intro YQ vT;refine zN 11 ?_;have Ed:=vT.bq [2];have tu:St B w0 YQ (_::_::_::_::_::_::_::_::_::_::((rr++gT bs)++[.dR 1 A2 P1.1.length (Jq P1.1)])):=Ed.toEnd 3 E;have wP:=tu.fC [9,9,9,9,9,9,9];refine iO (X:=Nat×(Option Addr)×Nat×(List UInt8)×(List BX)×(List OJ)) (λO=>[(0,pV kw 0),(1,pV kn 0),(5,.slice (aD bB 0) 4 4),(6,.slice (aD wB 0) 4 I),(7,pV CZ 0),(34,.slice (aD bB 0) 4 4),(35,D 4),(36,D (O.1:Int))]) (λO wr=>(O.1<=4)/\(gU P1.2.1 (dK X.data X.OY) [0,1,2,3] P1.1=gU P1.2.1 (dK X.data X.OY) ((range 4).drop O.1) O.2.2.2.1)/\(O.2.2.2.2.1.map BX.b=vB (λj=>if j<O.1/\((dK X.data X.OY) j).F9=1 then(gW ((dK X.data X.OY) j)).1 else(dK X.data X.OY) j))/\(∀y∈O.2.2.2.2.1,Eo (gT bs++O.2.2.2.2.2) y)/\(Ro O.2.2.2.2.2 1 O.2.1 O.2.2.2.1.length (Jq O.2.2.2.1))/\St B w0 wr (cN kn n X z z.pv (cF kw R m ((bN CZ n X.up O.2.1 O.2.2.2.1 O.2.2.1 P1.2.1 z.bb X.PS X.PZ z.iA z.ix z.ic z.pv X.turn)::(.own 42 6 (.slice (aD wB 0) 4 I) 4 ((O.2.2.2.2.1).flatMap BX.cells))::(oB bB bs)::((rr++gT bs)++O.2.2.2.2.2))))) (λO=>4-O.1) (0,A2,c3,P1.1,bs,[.dR 1 A2 P1.1.length (Jq P1.1)]) ?_ ?_ ?_
  ·exact⟨aG _,E,(by rw[hbm];exact avl),(λy hy=>(Sb hbc y hy).mono λf hf=>bM _ hf),(Ro.dR (aF.2 E)),wP⟩
  ·exact YH
  rintro⟨k,A9,c9,d9,ws,N9⟩ w33 ⟨ar5,VD,ZU,ak8,Vv,uy⟩
  try dsimp only at ar5 VD ZU ak8 Vv uy
  refine cB (l':=[(0,pV kw 0),(1,pV kn 0),(5,.slice (aD bB 0) 4 4),(6,.slice (aD wB 0) 4 I),(7,pV CZ 0),(34,.slice (aD bB 0) 4 4),(35,D 4),(36,D ((k:Nat):Int))]) YH (bH (aL ?_));by_cases h40:((k:Nat):Int)<4
  ·refine zN 10 ?_;have J:k<4:=Y;obtain⟨y,hy,hyV⟩:=Zd hbm J;have tF:=Sb hbc y (jN hy);obtain⟨y0,hy0,_⟩:=Zd ZU J;have hlw:ws.length=4:=by have:=bP length ZU;simpa[vB]using this
   have hvk:=hvv k J;have hln:=mF (kT hvk);have BH:y.b.Jp.length*48<=reachBytes:=by rw[hyV];unfold reachBytes;omega
   have OQ:=zw hvk;refine zN 2 ?_;refine vv (nC k) ?_;refine vv (aA E E (fu (cs:=BX.cells y) (Rd.Bb (St.Uz 9 uy E) (λ_ _ h=>dF (enc:=BX.cells) (sz:=6) (λ_=>E) hy h)))) ?_;refine iU uy iN ?_;intro b41 YN wO;refine zQ ?_;refine stA 0 wO kQ ?_;intro Un tC;refine zN 7 ?_;by_cases h46:y.b.F9=1
   ·refine zN 7 ?_;obtain⟨BR,tH⟩:∃r,gW y.b=r:=⟨_,E⟩;have HP:=λw h=>aaU y.b.F9 y.b.ep y.b.fr y.b.tg y.b.rd y.A y.c y.b.Jp w h BH;rw[show gW ⟨y.b.F9,y.b.ep,y.b.fr,y.b.tg,y.b.rd,y.b.Jp⟩=BR from tH]at HP;refine zN 2 ?_;refine dZ eQ (HP _ (tF.1.rd tC (PO 11 E (λf hf=>bM _ (aK _ hf))))) ?_;rintro _ YO ⟨PD,c48,aAX,rfl,T52⟩;refine⟨_,E,?_⟩;have yK:=tC.ext T52 E;refine zN 3 ?_;refine iU yK iN ?_;intro b53 w54 yL;refine stA 0 yL kQ ?_;intro w56 wY;refine zN 7 ?_;refine UR eQ wY (kI 2 k y _) ?_;intro w58 zT;refine iU zT zn ?_;intro b61 w62 ze;refine stA 0 ze kQ ?_;intro w64 JF;refine zN 4 ?_;refine vv (v:=.agg #[D 4,D 0,D 0,D 0,D 0,D 0]) iJ ?_;refine zQ ?_;refine kZ (row':= #[D 2,D ((k:Nat):Int),D y.b.ep,D 0,D 4,D 0,D 0,D 0,D 0,D 0]) 0 JF kQ ?_;intro YP wZ;refine zN 4 ?_;by_cases hB:BR.2=0
    ·rcases ak9:gH d9 P1.2.1 [gZ 2 k y.b.ep 0 bg]with _|aHy
     ·refine zN 5 ?_;refine nR (V:=λb=>.slice (aD b 0) 1 1) (row:= #[D 2,D ((k:Nat):Int),D y.b.ep,D 0,D 4,D 0,D 0,D 0,D 0,D 0]) (t:=138) wZ (wg E E E E) E E (bD (vs:=[(0,.agg #[D 2,D ((k:Nat):Int),D y.b.ep,D 0,D 4,D 0,D 0,D 0,D 0,D 0])]) E zL kQ) ?_;intro b70 w71 IB;have tQ:=IB.fC [12];refine Bg eQ (aeb (rs:=[gZ 2 k y.b.ep 0 bg]) ak9 (Ro.Oy (bS.2 ⟨0,E⟩) E E) Vv (by exact PO 14 E λf hf=>aK _ hf) (fV E) tQ) ?_;rintro _ w78 ⟨rfl,Fu⟩;refine⟨_,E,?_⟩;refine zN 13 ?_;have Eh:=Fu.bq [14,13,5,4,3,2,1,0];have yw:=(Eh).UQ.UQ;have hr1:((dK X.data X.OY) k).F9=1:=by rw[<-hyV];omega
      have BP:m.start n=m:=WW hX ‹_› (by rw[hP1,VD,qx J];exact aj5 hr1 (by rw[<-hyV];exact ak9));rw[BP];exact⟨E,Wd.fq (X':=X) (z':=z) (Ls:=[]) (fA:=R.fA) (fc:=R.fc) (fx:=R.fx) (sA:=R.sA) (sc:=R.sc) (tA:=R.tA) (tc:=R.tc) hkn jC hrr G hn yw NG.more (λu hu=>.inl hu) (aJ hX).symm G.OM.symm mI⟩
     refine zN 5 ?_;refine nR (V:=λb=>.slice (aD b 0) 1 1) (row:= #[D 2,D ((k:Nat):Int),D y.b.ep,D 0,D 4,D 0,D 0,D 0,D 0,D 0]) (t:=138) wZ (wg E E E E) E E (bD (vs:=[(0,.agg #[D 2,D ((k:Nat):Int),D y.b.ep,D 0,D 4,D 0,D 0,D 0,D 0,D 0])]) E zL kQ) ?_;intro b82 w83 IG;have Mg:=IG.fC [12];refine Bg eQ (aec (rs:=[gZ 2 k y.b.ep 0 bg]) ak9 (Ro.Oy (bS.2 ⟨0,E⟩) E E) Vv (by exact PO 14 E λf hf=>aK _ hf) (fV E) Mg) ?_;rintro _ w90 ⟨A86,c87,N88,rfl,aAY,Uo⟩;refine⟨_,E,?_⟩;refine zN 11 ?_;refine vv (nC k) ?_;refine nY (xs':=(ws.set k (⟨BR.1,PD,c48⟩:BX)).flatMap BX.cells) 13 Uo (wn E) E E E E E E zm E (dx E) (by omega) (by rw[fU];exact tV (enc:=BX.cells) (sz:=6) (λ_=>E) (⟨BR.1,PD,c48⟩:BX) _ _ (by omega)) ?_;intro w92 Fw;have aPU:(ws.set k (⟨BR.1,PD,c48⟩:BX))[k]? =some (⟨BR.1,PD,c48⟩:BX):=qV Y;refine zN 4 ?_;refine vv (v:=D ((k+1:Nat):Int)) jW ?_;refine zN 2 ?_;have NV:=Fw.bq [5,3,2,1];have IJ:St B w0 w92 (_::_::_::_::_::_::_::_::_::_::((((rr++gT bs)++N9)++N88)++[.dR 6 PD BR.1.Jp.length ((BR.1.Jp).flatMap Ev.cells)])):=NV.toEnd 1 E;have II:=IJ.fC [7,7,7,7,7,7,7];have FB:=II;have hr1:((dK X.data X.OY) k).F9=1:=by rw[<-hyV];omega
     have hap:((((rr++gT bs)++N9)++N88)++[.dR 6 PD BR.1.Jp.length ((BR.1.Jp).flatMap Ev.cells)])=((rr++gT bs)++(N9++(N88++[.dR 6 PD BR.1.Jp.length ((BR.1.Jp).flatMap Ev.cells)]))):=by simp only[append_assoc]
     rw[hap]at FB;refine dL (k+1,A86,c87,aHy,ws.set k (⟨BR.1,PD,c48⟩:BX),N9++(N88++[.dR 6 PD BR.1.Jp.length ((BR.1.Jp).flatMap Ev.cells)])) ?_ YH (by first|omega|(dsimp only;omega));exact⟨uQ,(by dsimp only;rw[VD,qx J];exact af5 hr1 (by rw[<-hyV,tH];exact hB) (by rw[<-hyV];exact ak9)),(by dsimp only;rw[map_set,ZU];exact af3 J hr1 (by rw[<-hyV,tH])),(Gw (λu hu=>(ak8 u hu).mono (λf hf=>(aP.1 hf).elim (λh=>bM _ h) λh=>aK _ (bM _ h))) ⟨Ro.dR (aK _ (aK _ (aK _ (aF.2 E)))),aAX⟩),(aAY.mono (λf hf=>(aP.1 hf).elim (λh=>bM _ h) λh=>aK _ (bM _ h))),FB⟩
    refine zN 20 ?_;have S99:=wZ.bq [13,12,11,3,2,1,0];have yT:=(S99).UQ.UQ;have hr1:((dK X.data X.OY) k).F9=1:=by rw[<-hyV];omega
    have BP:m.start n=m:=WW hX ‹_› (by rw[hP1,VD,qx J];exact aj4 hr1 (by rw[<-hyV,tH];exact hB));rw[BP];exact⟨E,Wd.fq (X':=X) (z':=z) (Ls:=[]) (fA:=R.fA) (fc:=R.fc) (fx:=R.fx) (sA:=R.sA) (sc:=R.sc) (tA:=R.tA) (tc:=R.tc) hkn jC hrr G hn yT NG.more (λu hu=>.inl hu) (aJ hX).symm G.OM.symm mI⟩
   refine zN 9 ?_;refine vv (v:=D ((k+1:Nat):Int)) jW ?_;refine zN 2 ?_;have yV:=tC.bq [0];have wh:=yV;have hro:¬((dK X.data X.OY) k).F9=1:=by rw[<-hyV];assumption
   refine dL (k+1,A9,c9,d9,ws,N9) ?_ YH (by first|omega|(dsimp only;omega));exact⟨uQ,(by dsimp only;rw[VD,qx J];exact af4 hro),(by dsimp only;rw[ZU];exact af2 hro),ak8,Vv,wh⟩
  refine zN 15 ?_;refine kZ (row':=eP n true (.slice z.tA X.data.length z.tc) X.OY (.slice (aD z.bb 0) 4 4) X.PS X.PZ (.slice z.iA z.ix.length z.ic) (z.pv) X.turn) 0 uy kQ ?_;intro aGl Bu;refine zN 5 ?_;refine dZ eQ (qC Bu hu) ?_;rintro _ aeN ⟨rfl,aAZ,Hg⟩;refine⟨_,E,?_⟩;have xV:=Hg.bq [3,2,1];refine zN 6 ?_;refine vv (aA E E (fu (cs:=[.slice A9 d9.length c9,D P1.2.1]) (St.rg 5 xV E (u6)))) ?_;have hwA:gU P1.2.1 (dK X.data X.OY) [0,1,2,3] P1.1=some d9:=by rw[VD,sH (by rw[Gx];omega)];rfl
  have Jb:=λw h=>DJ (rJ A9 d9.length c9 d9 P1.2.1 w h);rw[AX (hmay _ hwA)]at Jb;refine dZ eQ (Jb _ (Vv.rd xV (PO 8 E λf hf=>aK _ hf))) ?_;rintro _ aeG ⟨Rq,Vy,rfl,aHz⟩;refine⟨_,E,?_⟩;have Ej:=xV.ext aHz E;refine zN 5 ?_;refine kZ (row':=eP n true (.slice Rq d9.length Vy) (d9.length:Int) (.slice (aD aAZ 0) 4 4) (λ_=>nowhere) (λ_=>false) (.slice none 0 0) (.nilFunc) X.turn) 1 Ej kQ ?_;intro akJ sS;refine zN 8 ?_;refine kZ (row':=eP n true (.slice Rq d9.length Vy) (d9.length:Int) (.slice (aD bB 0) 4 4) (λ_=>nowhere) (λ_=>false) (.slice none 0 0) (.nilFunc) X.turn) 1 sS kQ ?_;intro ax7 CJ;refine zN 10 ?_;have hwA:gU P1.2.1 (dK X.data X.OY) [0,1,2,3] P1.1=some d9:=by rw[VD,sH (by rw[Gx];omega)];rfl
  have aHA:k=4:=Y;have hsp:=ZU;rw[aHA]at hsp;have yU:=CJ.bq [6];have zV:=yU.EH 119 23;have xk:=(((((((((zV.bring 7 E).bring 2 E).bring 7 E).bring 7 E).bring 7 E).bring 7 E).bring 6 E).bring 8 E).bring 8 E);rw[show((rr++gT bs)++N9)=(rr++(gT bs++N9))from gP ..]at xk;obtain⟨m1,hm1⟩:∃k,k=m.put n {X.blank with up:=true,data:=d9,OY:=(d9.length:Int),bs:=(dK X.data X.OY)}:=⟨_,E⟩;have HW1:Wd K B w0 ax7 ((.own 42 6 (.slice (aD wB 0) 4 I) 4 ((ws).flatMap BX.cells))::fs) m1 (hwl ws++H):=by
   rw[hm1];refine Wd.fin (m:=m) (fs:=(.own 42 6 (.slice (aD wB 0) 4 I) 4 ((ws).flatMap BX.cells))::fs) (X':={X.blank with up:=true,data:=d9,OY:=(d9.length:Int),bs:=(dK X.data X.OY)}) (z':={bb:=bB,tA:=Rq,tc:=Vy,bx:=bs,iA:=none,ic:=0,ix:=[],pv:=.nilFunc}) (N:=gT bs++N9) (Ls:=[.dR 1 Rq d9.length (Jq d9)]) (rr:=(.own 42 6 (.slice (aD wB 0) 4 I) 4 ((ws).flatMap BX.cells))::rr) (H:=H) (fA:=R.fA) (fc:=R.fc) (fx:=R.fx) (sA:=R.sA) (sc:=R.sc) (tA:=R.tA) (tc:=R.tc) hkn jC (by rw[<-hrr];rfl) G hn xk ⟨hbm,λu hu=>(Sb hbc u hu).mono (λf hf=>aHt hf),Ro.dR (u7 (aF.2 E)),E,λu hu=>by simp at hu,E⟩ (λu hu=>.inl hu) E G.OM.symm ?_;exact aos λy hy=>(ak8 y hy).mono λf hf=>aHu hf
  have hwo:=af6 hwA;have ayB:m1.aj n={X.blank with up:=true,data:=d9,OY:=(d9.length:Int),bs:=(dK X.data X.OY)}:=by rw[hm1];exact aY _
  refine iO (X:=Nat×Cl) (λO=>[(0,pV kw 0),(1,pV kn 0),(85,.slice (aD wB 0) 4 I),(86,D 4),(87,D (O.1:Int))]) (λO wr=>(Wd K B w0 wr ((.own 42 6 (.slice (aD wB 0) 4 I) 4 ((ws).flatMap BX.cells))::fs) O.2 (hwl ws++H))/\(Cl.TY n (dK X.data X.OY) [0,1,2,3] m1=Cl.TY n (dK X.data X.OY) ((range 4).drop O.1) O.2)/\(O.1<=4)/\(O.2.OM=m.OM)/\(∀j,j<4->ay ((O.2.aj n).bs j)=0)/\(∀j,O.1<=j->j<4->(O.2.aj n).bs j=(dK X.data X.OY) j)/\(∀a b,0<=(O.2.PU a b).2)/\(O.2.bG.length<=m.bG.length+2001*O.1)/\St B w0 wr [.own 42 6 (.slice (aD wB 0) 4 I) 4 ((ws).flatMap BX.cells)]) (λO=>4-O.1) (0,m1) ?_ ?_ ?_
  ·exact⟨HW1,E,aG _,by rw[hm1];rfl,λj hj=>by dsimp only;rw[ayB];exact hvv j hj,λj _ _=>by dsimp only;rw[ayB],λa b=>by dsimp only;rw[hm1];exact hsh a b,by dsimp only;rw[hm1];exact aB,Wd.Kr (gs:=[.own 42 6 (.slice (aD wB 0) 4 I) 4 ((ws).flatMap BX.cells)]) HW1⟩
  ·exact CO
  rintro⟨M,mm⟩ aeI ⟨agS,ZV,aA0,ZW,Z,ZX,ZY,aA1,E5⟩
  try dsimp only at agS ZV aA0 ZW Z ZX ZY aA1 E5
  refine cB (l':=[(0,pV kw 0),(1,pV kn 0),(85,.slice (aD wB 0) 4 I),(86,D 4),(87,D (M:Int))]) CO ?_;obtain⟨R3,G3,Ze⟩:=agS.open hn;have WX:=G3.jH n hn;obtain⟨X3,WY⟩:∃X,mm.aj n=X:=⟨_,E⟩;obtain⟨z3,hz3⟩:∃z,R3.nx n=z:=⟨_,E⟩;rw[WY,hz3]at Ze WX;obtain⟨rr3,LK⟩:∃r,iW K R3 mm fs n=r:=⟨_,E⟩;have aPV:R3.fx.length=mm.OM.length:=by rw[<-G3.OM,iE]
  have Bv:St B w0 aeI (cN kn n X3 z3 z3.pv (cF kw R3 mm ((.own 42 6 (.slice (aD wB 0) 4 I) 4 ((ws).flatMap BX.cells))::rr3))):=by rw[<-LK];subst hkn;subst jC;exact Ze
  clear Ze;have hlen3:=(Bv.own 1 E).1;rw[jI (sz:=6) (λ_=>E)]at hlen3;rw[WY]at Z ZX;refine zN 2 ?_;by_cases aPW:(M:Int)<4
  ·refine zN 10 ?_;have J:M<4:=Y;obtain⟨x,hx,hxs⟩:=Zd hsp J;refine zN 2 ?_;refine vv (nC M) ?_;refine vv (aA E E (fu (cs:=BX.cells x) (Rd.Bb (St.Uz 7 Bv E) (λ_ _ h=>dF (enc:=BX.cells) (sz:=6) (λ_=>E) hx h)))) ?_;refine iU Bv iN ?_;intro ar6 awz OI;refine zQ ?_;refine sa 0 OI kQ ?_;intro aeu G8;refine zN 7 ?_;by_cases aPX:x.b.F9=1
   ·refine zN 11 ?_;have JD:=G8.fC [7,7,7,7,7,7,7];have aA2:=Wd.fq (m:=mm) (m':=mm) (H:=hwl ws++H) (H':=hwl ws++H) (fs:=(.Oy ar6 (bR x.b x.A x.c) 42)::(.own 42 6 (.slice (aD wB 0) 4 I) 4 ((ws).flatMap BX.cells))::fs) (X':=X3) (z':=z3) (Ls:=[]) (fA:=R3.fA) (fc:=R3.fc) (fx:=R3.fx) (sA:=R3.sA) (sc:=R3.sc) (tA:=R3.tA) (tc:=R3.tc) (rr:=(.Oy ar6 (bR x.b x.A x.c) 42)::(.own 42 6 (.slice (aD wB 0) 4 I) 4 ((ws).flatMap BX.cells))::rr3) hkn jC (by rw[<-LK];rfl) G3 hn JD WX.more (λu hu=>.inl hu) (aJ WY).symm G3.OM.symm mI;refine dZ eQ (abX hn hkn jC hu (by rw[ZW];exact hB1) Y J aA2 (by rw[WY];exact Z) (ZY n M)) ?_;rintro _ aHB ⟨rfl,aqj⟩;refine⟨_,E,?_⟩;have Qu:=Jg mm n M (ZY);have hrs:=(IY (n:=n) (q:=M) mm (by rw[WY];exact mF (kT (Z M J)))).2;obtain⟨mc,hmc⟩:∃k,k=mm.recover n M:=⟨_,E⟩;rw[<-hmc]at aqj Qu hrs;obtain⟨R5,G5,S05⟩:=aqj.open hn;have NG5:=G5.jH n hn;obtain⟨X5,hX5⟩:∃X,mc.aj n=X:=⟨_,E⟩;obtain⟨z5,hz5⟩:∃z,R5.nx n=z:=⟨_,E⟩;rw[hX5,hz5]at S05 NG5;obtain⟨rr5,ayC⟩:∃r,iW K R5 mc fs n=r:=⟨_,E⟩;have aPY:R5.fx.length=mc.OM.length:=by rw[<-G5.OM,iE]
    have Zp:St B w0 aHB (cN kn n X5 z5 z5.pv (cF kw R5 mc ((.Oy ar6 (bR x.b x.A x.c) 42)::(.own 42 6 (.slice (aD wB 0) 4 I) 4 ((ws).flatMap BX.cells))::rr5))):=by rw[<-ayC];subst hkn;subst jC;exact S05
    clear S05;have aA3:=(Zp.own 1 E).1;rw[jI (sz:=6) (λ_=>E)]at aA3;obtain⟨y5,hy5,aPZ,aP0⟩:=NG5.at_ J;refine zN 3 ?_;have Zw:=Zp.drew;refine gV 8 6 Zw [] ?_;iterate 6 refine ji ?_
    refine gF kQ E E E ?_;refine vv (nC M) ?_;refine nY (xs':=(z5.bx.set M (⟨x.b,x.A,x.c⟩:BX)).flatMap BX.cells) 1 Zw (wn E) E E E E E E zm E (dx E) (by omega) (by rw[fU];exact tV (enc:=BX.cells) (sz:=6) (λ_=>E) (⟨x.b,x.A,x.c⟩:BX) _ _ (by omega)) ?_;intro aGP K9;have hy153:(z5.bx.set M (⟨x.b,x.A,x.c⟩:BX))[M]? =some (⟨x.b,x.A,x.c⟩:BX):=qV Y;refine zQ ?_;refine kC ?_;refine zN 5 ?_;refine vv (v:=.agg #[D 4,D 0,D 0,D 0,D 0,D 0]) iJ ?_;refine zQ ?_;refine dZ eQ (qB hn J hy153 bg iX (-1) K9 Y) ?_;rintro _ aHC ⟨rfl,aHD,aHE,aK9,aA4,aHF⟩;refine⟨_,E,?_⟩;subst aA4;have QK:=aHF.bq [7];have hr1:((dK X.data X.OY) M).F9=1:=aj7 hxs Y;have hxb:x.b=rD ((dK X.data X.OY) M):=by rw[hxs,au ⟨J,hr1⟩,(hwo M J hr1).2]
    obtain⟨md,hmd⟩:∃k,k=(mc.aC n M x.b).Ug n M bg iX (-1):=⟨_,E⟩;have aHG:md=((mm.recover n M).aC n M (gW ((dK X.data X.OY) M)).1).Ug n M bg iX (-1):=by rw[hmd,hmc,hxb,(hwo M J hr1).2]
    have af9:md={mc.put n (X5.aC M x.b)with bG:=mc.bG++[⟨n,M,x.b.ep,bg,iX,-1⟩],PU:=kM mc.PU n M (x.b.ep,(x.b.Jp.length:Int))}:=by rw[hmd];exact af7 hX5
    have aHH:md.OM=mm.OM:=by rw[af9];exact Qu.2.1
    have hnm:(mc.aj n)=X3:=by rw[Qu.1,WY]
    have ayD:X5=X3:=by rw[<-hX5];exact hnm
    have ayE:md.aj n=X5.aC M x.b:=by rw[af9];exact aY _
    have aHI:∀j,j<4->ay ((md.aj n).bs j)=0:=λj hj=>by rw[ayE];exact aor (by rw[ayD];exact Z) (by rw[hxb];exact(hwo M J hr1).1) j hj
    have aHJ:∀j,M+1<=j->j<4->(md.aj n).bs j=(dK X.data X.OY) j:=λj h1 h2=>by rw[ayE,ayD];exact(Ox Y).trans (ZX j Y h2)
    have aHK:∀a b,0<=(md.PU a b).2:=by rw[af9];exact LJ (a:=n) (q:=M) (e:=x.b.ep) (l:=x.b.Jp) Qu.2.2
    have aP1:md.bG.length=mc.bG.length+1:=by rw[af9];exact aZ ..
    clear hmd;have aqk:Wd K B w0 aHC ((.own 42 6 (.slice (aD wB 0) 4 I) 4 ((ws).flatMap BX.cells))::fs) md (hwl ws++H):=by
     rw[af9];exact Wd.fq (m:=mc) (H:=hwl ws++H) (fs:=(.own 42 6 (.slice (aD wB 0) 4 I) 4 ((ws).flatMap BX.cells))::fs) (X':=X5.aC M x.b) (z':={z5 with bx:=z5.bx.set M (⟨x.b,x.A,x.c⟩:BX)}) (Ls:=[]) (fA:=R5.fA) (fc:=R5.fc) (fx:=R5.fx) (sA:=aHD) (sc:=aHE) (tA:=R5.tA) (tc:=R5.tc) (rr:=(.own 42 6 (.slice (aD wB 0) 4 I) 4 ((ws).flatMap BX.cells))::rr5) hkn jC (by rw[<-ayC];rfl) G5 hn QK (fF.aqb (cO:=x) NG5.more J (avm G5.hld hx).more) (λu hu=>.inl hu) E G5.OM.symm mI
    refine zN 4 ?_;refine vv (v:=D ((M+1:Nat):Int)) jW ?_;refine zN 2 ?_;refine dL (M+1,md) ?_ CO (by first|omega|(dsimp only;omega));exact⟨aqk,(by dsimp only;rw[ZV,qx J];exact abv hr1 aHG),uQ,(by dsimp only;rw[aHH];exact ZW),(by dsimp only;exact aHI),(by dsimp only;exact aHJ),(by dsimp only;exact aHK),uQ,(Wd.Kr (gs:=[.own 42 6 (.slice (aD wB 0) 4 I) 4 ((ws).flatMap BX.cells)]) aqk)⟩
   refine zN 9 ?_;refine vv (v:=D ((M+1:Nat):Int)) jW ?_;refine zN 2 ?_;have La:=G8.bq [0];have Z0:=Wd.fq (m:=mm) (m':=mm) (H:=hwl ws++H) (H':=hwl ws++H) (fs:=(.own 42 6 (.slice (aD wB 0) 4 I) 4 ((ws).flatMap BX.cells))::fs) (X':=X3) (z':=z3) (Ls:=[]) (fA:=R3.fA) (fc:=R3.fc) (fx:=R3.fx) (sA:=R3.sA) (sc:=R3.sc) (tA:=R3.tA) (tc:=R3.tc) (rr:=(.own 42 6 (.slice (aD wB 0) 4 I) 4 ((ws).flatMap BX.cells))::rr3) hkn jC (by rw[<-LK];rfl) G3 hn La WX.more (λu hu=>.inl hu) (aJ WY).symm G3.OM.symm mI;have hro:¬((dK X.data X.OY) M).F9=1:=aj6 (hwo M J) hxs ‹_›;refine dL (M+1,mm) ?_ CO (by first|omega|(dsimp only;omega));exact⟨Z0,(by dsimp only;rw[ZV,qx J];exact abu hro),uQ,ZW,(by dsimp only;rw[WY];exact Z),(by dsimp only;rw[WY];exact λj h1 h2=>ZX j Y h2),ZY,uQ,(Wd.Kr (gs:=[.own 42 6 (.slice (aD wB 0) 4 I) 4 ((ws).flatMap BX.cells)]) Z0)⟩
  refine zN 10 ?_;have BP:m.start n=mm:=by rw[af8 hX ‹_› (by rw[hP1];exact hwA),<-hm1,ZV,sH (by rw[Gx];omega)];rfl
  rw[BP];exact⟨E,aj9 (Wd.less (gs:=[.own 42 6 (.slice (aD wB 0) 4 I) 4 ((ws).flatMap BX.cells)]) agS)⟩
 refine cB (l':=[(0,pV kw 0),(1,pV kn 0),(18,.bool true)]) Ip (oD E (rM (jv (fK (rs:=[]) (vs:=[]) E trivial ?_))));have BP:m.start n=m:=aj8 (by rw[hX];assumption);rw[BP];exact⟨E,Wd.fq (X':=X) (z':=z) (Ls:=[]) (fA:=R.fA) (fc:=R.fc) (fx:=R.fx) (sA:=R.sA) (sc:=R.sc) (tA:=R.tA) (tc:=R.tc) hkn jC hrr G hn S NG.more (λu hu=>.inl hu) (aJ hX).symm G.OM.symm mI⟩
def JN.mG(h:JN X):∀q,q<4->ay (X.bs q)=0:=by
 rcases h with⟨_,rs,us,h⟩|⟨_,rs,t,f,h⟩
 ·exact h.mG
 exact h.bz
def JN.tp(h:JN X):∃rs t f,X.data=dz rs++t/\(PV t).2=0/\jK rs f/\(∀q,q<4->ay (f q)=0)/\X.data.length<=100000/\0<=X.OY/\X.OY<=X.data.length:=by
 rcases h with⟨_,rs,us,h⟩|⟨_,rs,t,f,h⟩
 ·have J:=h.data;have Z:=bP length J;rw[nV,aZ]at Z;have hs:=h.OY
  cases M:X.OO with
  |none=>
   have hu:=h.sK M;refine⟨rs,[],_,by rw[J,hu,bI,bI],zX,h.tape,λq I=>(Y0 h.mG I).1,h.len,by omega,by omega⟩
  |some p=>
   obtain⟨h1,h2,h3⟩:=h.FI p M;obtain⟨O,h5⟩:=jL h.tape h.mG h2 h3;rw[<-h1]at O;refine⟨rs++us,[],_,by rw[J,bI],zX,O,λq I=>?_,h.len,by omega,by omega⟩;refine xD ?_;by_cases e:q=p.q
   ·rw[e,Jo];exact h5
   rw[Ox e];exact h.mG q I
 exact⟨rs,t,f,h.data,h.axM,h.tape,λq I=>(h.mG q I).1,h.len,h.OY.1,h.OY.2⟩
def JN.may(h:JN X):dX X.data X.OY=true:=by
 obtain⟨rs,t,f,_,_,_,_,h1,I,J⟩:=h.tp;simp only[dX,Bool.and_eq_true,decide_eq_true_eq];exact⟨⟨h1,I⟩,J⟩
def JN.aHL(h:JN X){rs:List dN}{d:List UInt8}(hw:gH X.data X.OY rs=some d):dX d X.OY=true:=by
 obtain⟨_,_,_,_,_,_,_,h1,O,Z⟩:=h.tp;obtain⟨I,_,J⟩:=vk hw;have:=J h1;have M:=bP length I;rw[aZ]at M;simp only[dX,Bool.and_eq_true,decide_eq_true_eq];omega
def JN.fit(h:JN X)(J:X.OO=some p):p.fit/\dX X.data X.OY=true:=by
 refine⟨?_,h.may⟩
 rcases h with⟨_,rs,us,h⟩|⟨_,rs,t,f,h⟩
 ·obtain⟨h1,M,I⟩:=h.FI p J;obtain⟨Z,O⟩:=jL h.tape h.mG M I
  cases p with
  |serve q Jp op num a=>exact⟨I,mF M.2.2.2⟩
  |P8 q b=>exact I
  |T9 q b last=>exact I
  |gy q b at_=>exact⟨I,O⟩
  |P5 q b=>exact I
 rw[h.nQ]at J;cases J
def TF{s:Int}{f:Nat->bC}:∀(I:List Nat) {d d':List UInt8},gU s f I d=some d'->d.length<=d'.length/\(d.length<=100000->d'.length<=100000)
 |[],d,d',h=>by cases h;exact⟨aB,id⟩
 |q::r,d,d',h=>by
  rw[gU]at h
  split at h
  ·exact TF r h
  split at h
  ·cases h
  split at h
  ·cases h
  rename_i d2 hw
  obtain⟨J,_,M⟩:=vk hw;obtain⟨h1,O⟩:=TF r h;rw[J,aZ]at h1;exact⟨by omega,λZ=>O (M Z)⟩
def ac2:∀(rs:List dN),6*rs.length<=(dz rs).length
 |[]=>by simp[dz]
 |r::rs=>by
  have h1:=(CY r).1;have h:=ac2 rs;have e:dz (r::rs)=oI r++dz rs:=by simp[dz,flatMap_cons]
  rw[e,aZ,mV];omega
def JN.U5(h:JN X):Fb X.data X.OY=some (vB (dK X.data X.OY))/\(∀q,q<4->ay (dK X.data X.OY q)=0)/\(xA (lH X.data X.OY).1 (lH X.data X.OY).2.1).1.length*80<=reachBytes/\
  (∀d,gU (lH X.data X.OY).2.1 (dK X.data X.OY) [0,1,2,3] (lH X.data X.OY).1=some d->dX d (lH X.data X.OY).2.1=true):=by
 obtain⟨rs,t,f,J,Z,hT,hb,h1,h2,h3⟩:=h.tp;obtain⟨M,r2,O⟩:=hT.read J Z h1 h2 h3;have hl:(dz rs).length<=X.data.length:=by rw[J,aZ];omega
 have hg:=ac2 rs;refine⟨by rw[r2,Db λq I=>(O q I).symm],λq I=>by rw[O q I];exact hb q I,?_,λd hw=>?_⟩
 ·rw[M];unfold xA;rw[au (by simp[dX];omega)];have:=BD (t:=[]) hT.1 zX;rw[bI]at this;dsimp only;rw[this];unfold reachBytes;dsimp only;omega
 rw[M]at hw⊢;obtain⟨g1,g2⟩:=TF _ hw;dsimp only at g1 g2 hw⊢;have g3:=g2 Y;simp only[dX,Bool.and_eq_true,decide_eq_true_eq];omega
def jY.tgt{l:bO}(h:jY l):∃j,j<5/\(l.tg= -1\/l.tg= -2\/l.tg=((j:Nat):Int)):=by
 obtain⟨_,_,h1|h1|h1,_⟩:=h
 ·exact⟨0,by omega,.inl h1⟩
 ·exact⟨0,by omega,.inr (.inl h1.1)⟩
 exact⟨l.tg.toNat,by omega,.inr (.inr Y)⟩
def dW.fl{T S eZ K:Nat}(h:dW m T S eZ K):m.OM.length<=T:=by
 have:=Rw m (n:=0) Y;have:=h.room;omega
def dW.il{T S eZ K:Nat}(h:dW m T S eZ K)(hn:n<5):(m.aj n).Mv.length<=T:=by
 have:=Rw m hn;have:=h.room;omega
def dW.fi{T S eZ K:Nat}(h:dW m T S eZ K)(hn:n<5):m.OM.length+(m.aj n).Mv.length<=T:=by
 have:=Rw m hn;have:=h.room;omega
def Uv(m:Cl):Prop:= ∀a b,0<=(m.PU a b).2
def Uv.of(h:Uv m)(e:m'.PU=m.PU):Uv m':=λa b=>by rw[e];exact h a b
def Uv.Ug{e:Ev}{a:kE}{u:Int}(h:Uv m):Uv (m.Ug n q e a u):=LJ h
def Uv.done{op:Ev}{u:Int}{a:kE}(h:Uv m):Uv (m.done n q op u a):=by
 unfold Cl.done
 split
 ·exact(h.Ug (n:=n) (q:=q) (e:=op) (a:=a) (u:=u)).of E
 exact h.of E
def Uv.part{a:Int}(h:Uv m):Uv (m.part n q a):=by
 unfold Cl.part
 split
 ·exact h
 exact h.of E
def Uv.serve(h:Uv m):Uv (m.serve n l):=by
 unfold Cl.serve
 split
 ·exact h.done
 split
 ·exact h.done
 exact h.of E
def Uv.PY(h:Uv m):Uv (m.PY n l):=by
 unfold Cl.PY
 split
 ·exact h.serve
 split
 ·unfold Cl.TM
  split
  ·exact h
  split
  ·exact h.of E
  split
  ·exact h
  exact h.of E
 split
 ·unfold Cl.Ud
  split
  ·exact h
  split
  ·exact h
  split
  ·exact Uv.part (h.of E)
  split
  ·exact h
  exact h.of E
 split
 ·unfold Cl.T9
  split
  ·exact h
  split
  ·exact h.of E
  split
  ·exact h
  split
  ·exact h
  exact h.of E
 unfold Cl.Ui
 split
 ·exact h.of E
 split
 ·exact h.of E
 exact h.of E
def Uv.drain:∀(ls:List bO) {m:Cl},Uv m->Uv (Cl.drain n ls m)
 |[],m,h=>h
 |l::r,m,h=>by
  rw[Cl.drain];have h1:Uv ((m.put n {m.aj n with Mv:=r}).PY n l):=Uv.PY (h.of E)
  split
  ·exact Uv.drain r h1
  exact h1
def Uv.zY{p:dh}(h:Uv m):Uv (m.zY n p):=by
 cases p with
 |serve q Jp op num a=>exact Uv.done (h.of E)
 |P8 q b=>exact h.of E
 |T9 q b last=>
  unfold Cl.zY;dsimp only
  split
  ·exact Uv.Ug (h.of E)
  exact h.of E
 |gy q b a=>exact Uv.part (h.of E)
 |P5 q b=>exact h.of E
def Uv.step(h:Uv m):Uv (m.step n):=by
 unfold Cl.step
 split
 ·exact h
 split
 ·exact Uv.zY (h.of E)
 split
 ·exact(h.drain _).of E
 exact h.drain _
def Uv.P6(h:Uv m):Uv (m.P6 l):=by
 unfold Cl.P6
 split
 ·exact h.of E
 split
 ·split<;>exact h.of E
 split
 ·exact h.of E
 exact h
def Uv.comes:∀(ls:List bO) {m:Cl},Uv m->Uv (ls.foldl Cl.P6 m)
 |[],_,h=>h
 |_::ls,_,h=>Uv.comes ls h.P6
def Uv.recover(h:Uv m):Uv (m.recover n q):=(Jg m n q h).2.2
def Uv.TY{bs:Nat->bC}:∀(I:List Nat) {m:Cl},Uv m->Uv (Cl.TY n bs I m)
 |[],_,h=>h
 |q::r,m,h=>by
  rw[Cl.TY]
  split
  ·exact Uv.TY r h
  exact Uv.TY r (Uv.Ug ((h.recover (n:=n) (q:=q)).of E))
def Uv.Ub{a:Ac}(h:Uv m):Uv (m.Ub a):=by
 unfold Cl.Ub
 split
 ·unfold Cl.make
  split
  ·exact h
  split
  ·exact h
  split
  ·exact h
  exact LJ (l:=[]) h
 split
 ·exact h.of E
 split
 ·exact h.step
 split
 ·unfold Cl.pick
  split
  ·exact h
  dsimp only
  split
  ·refine Uv.P6 ?_
   split
   ·exact h
   exact h.of E
  split
  ·exact h
  exact h.of E
 split
 ·exact Uv.comes _ (h.of E)
 split
 ·unfold Cl.UZ
  split
  ·exact h.of E
  exact h
 split
 ·unfold Cl.start
  split
  ·exact h
  split
  ·exact h
  exact Uv.TY _ (h.of E)
 unfold Cl.move
 split
 ·exact h
 split
 ·exact h.of E
 exact h
end
section
variable {m mm:Cl}{n q k:Nat}{a:Ac}{PW:Pl×Int}{T S eZ K:Nat}{x:bO}{fl:List bO}
def aot(h:aN m.off q=PW):∃nn,nn<5/\(PW.2=0->PW.1.node=((nn:Nat):Int)):=by
 subst h;by_cases c:(aN m.off q).2=0
 ·obtain⟨h1,I,_⟩:=qm (λh=>h c);exact⟨_,h1,λ_=>by omega⟩
 exact⟨0,by omega,λh=>av h c⟩
def akb(h:dW m T S eZ K):dW {m with OM:=[]} (T+0) S (eZ+0) K:=by
 refine⟨h.jH,λl I=>(by simp at I),h.jk,?_,h.bG,h.bQ,h.turn,h.calls⟩;have:=h.room;unfold Cl.tot at this⊢;dsimp only[length_nil];omega
def akc(h:fl[k]? =some x):(fl.drop k).foldl Cl.P6 mm=(fl.drop (k+1)).foldl Cl.P6 (mm.P6 x):=by rw[Uu h,qX]
def akd(h:a.kd=1)(hn:a.nd=(n:Int))(I:a.qu=(q:Int)):m.Ub a=m.make n q:=by
 unfold Cl.Ub;rw[au h,hn,I,fB,fB]
def ake(h:a.kd=2)(I:a.qu=(q:Int)):m.Ub a={m with OM:=m.OM++[xB a.nd q a.op m.calls],calls:=m.calls+1}:=by
 unfold Cl.Ub;rw[ah Y,au h,I,fB]
def akf(h:a.kd=3)(hn:a.nd=(n:Int)):m.Ub a=m.step n:=by
 unfold Cl.Ub;rw[ah Y,ah Y,au h,hn,fB]
def Ng(h:a.kd=4\/a.kd=5\/a.kd=6):m.Ub a=m.pick a.at_.toNat (decide (a.kd≠5)) (decide (a.kd=6)):=by
 unfold Cl.Ub;rw[ah Y,ah Y,ah Y,au h]
def aou(h:a.kd=4):m.Ub a=m.pick a.at_.toNat true false:=by rw[Ng (.inl h),h];rfl
def aov(h:a.kd=5):m.Ub a=m.pick a.at_.toNat false false:=by rw[Ng (.inr (.inl h)),h];rfl
def aow(h:a.kd=6):m.Ub a=m.pick a.at_.toNat true true:=by rw[Ng (.inr (.inr h)),h];rfl
def aox(h:a.kd=7):m.Ub a=m.all:=by
 unfold Cl.Ub;rw[ah Y,ah Y,ah Y,ah Y,au h]
def Sd(h:a.kd=8)(hn:a.nd=(n:Int)):m.Ub a=m.UZ n a.kp:=by
 unfold Cl.Ub;rw[ah Y,ah Y,ah Y,ah Y,ah Y,au h,hn,fB]
def aga(h:a.kd=9)(hn:a.nd=(n:Int)):m.Ub a=m.start n:=by
 unfold Cl.Ub;rw[ah Y,ah Y,ah Y,ah Y,ah Y,ah Y,au h,hn,fB]
def agb(h:a.kd≠1)(I:a.kd≠2)(J:a.kd≠3)(h4:a.kd≠4)(h5:a.kd≠5)(h6:a.kd≠6)(M:a.kd≠7)(O:a.kd≠8)(Z:a.kd≠9)(hq:a.qu=(q:Int)):m.Ub a=m.move q a.nd:=by
 unfold Cl.Ub;rw[ah h,ah I,ah J,ah Y,ah M,ah O,ah Z,hq,fB]
def akg(h:(m.aj n).up=true){kp:Int}:m.UZ n kp=m.put n ((m.aj n).Uw kp):=au h
def agc(h:(m.aj n).up=false){kp:Int}:m.UZ n kp=m:=by
 unfold Cl.UZ;rw[ah (by rw[h];simp)]
end
def akh{K:CK}{B n kn kw:Nat}{w0 w:World}{fs:List OJ}{m:Cl}{H:List LX}{q k:Nat}{a:Ac}(hn:n<5)(hq:q<4)(hnd:a.nd=(n:Int))(hqd:a.qu=(q:Int))(J:K.nb n=kn)(M:K.wb=kw)(O:Uk B w0)(HW:Wd K B w0 w fs m H)(I:dW m (4*k) (500000*k) (500000*k) k)(hk:k<=100000)(ha:Es a)(hsh:Uv m):
 Calls prog 25 #[pV kw 0,.agg (aR a)] w (λe w'=>e=.returned (.tuple #[])/\Wd K B w0 w' fs (m.Ub a) H):=by
 obtain⟨R,G,S0⟩:=HW.open hn;have hfl:R.fx.length=m.OM.length:=by rw[<-G.OM,iE]
 have NG:=G.jH n hn;obtain⟨X,hX⟩:∃X,m.aj n=X:=⟨_,E⟩;obtain⟨z,hz⟩:∃z,R.nx n=z:=⟨_,E⟩;rw[hX,hz]at S0 NG;have hL:∀f∈R.L,f∈iW K R m fs n:=λf h=>aK _ (aK _ h);obtain⟨rr,Z⟩:∃r,iW K R m fs n=r:=⟨_,E⟩;rw[Z]at S0 hL;have S:St B w0 w ((bN kn n X.up z.tA X.data z.tc X.OY z.bb X.PS X.PZ z.iA z.ix z.ic z.pv X.turn)::(oB z.bb z.bx)::(fL z.iA z.ix z.ic)::(bW kw (.slice R.nA 5 R.nc) m.off R.fA R.fx R.fc m.PU R.sA m.bG R.sc R.tA m.bQ R.tc m.calls)::(oL R.fA R.fx R.fc)::(oS R.sA m.bG R.sc)::(oT R.tA m.bQ R.tc)::rr):=by subst J;subst M;exact S0
 clear S0 HW;have hlen:=(S.own 1 E).1;rw[jI (sz:=6) (λ_=>E)]at hlen;obtain⟨ab,ao,uf⟩:=Ew G.arr S (PO 7 E hL);have harr:=G.arr;rw[uf]at S harr;have hcl:=I.calls;have aP2:=I.fl;have ar7:a.at_=(a.at_.toNat:Int):=by have:=ha.at_;omega
 refine jc 144 func25 ?_;refine cw [0,1] ?_;refine zN 2 ?_;refine jT S ?_;intro b1 w2 S3;refine zN 11 ?_;by_cases h4:a.kd=1
 ·refine zN 5 ?_;have S5:St B w0 w2 [.Oy b1 (aR a) 51]:=S3.sub (Sublist.cons_cons _ (nil_sublist _));have Zf:=S3.drew;have S6:=S5.drew;refine aU 12 S6 [] ?_;refine aW 5 ?_;refine ak (v:=D (n:Int)) 6 E S6 (λ_ arX=>(Ey hnd (aA E E (aV (St.cl 0 arX E E))))) ?_;refine dI ?_;refine ak (v:=D (q:Int)) 10 E S6 (λ_ aqN=>(Ey hqd (aA E E (aV (St.cl 0 aqN E E))))) ?_;refine bJ 4 ?_;refine kG (i:=4) E E (v:=.slice (aD ab ao) 5 R.nc) (wn E) E E (aA E E (aV (St.cl 4 Zf E CG))) ?_;refine dI ?_;refine ak 7 E S6 (λ_ _=>nC n) ?_;refine bJ 8 ?_;refine kG (i:=8) E E (v:=pV kn 0) (wn E) E E (aA E E (aV (J▸yF harr hn Zf (PO 8 E hL)))) ?_;refine dI ?_;refine bJ 11 ?_;have tO:=Zf.fC [7,7,7,7,7,7,7];have tq:=tO;rw[<-uf]at tq;have ar4:=Wd.fq (m:=m) (m':=m) (H:=H) (H':=H) (fs:=(.Oy b1 (aR a) 51)::fs) (X':=X) (z':=z) (Ls:=[]) (fA:=R.fA) (fc:=R.fc) (fx:=R.fx) (sA:=R.sA) (sc:=R.sc) (tA:=R.tA) (tc:=R.tc) (rr:=(.Oy b1 (aR a) 51)::rr) J M (by rw[<-Z]<;>rfl) G hn tq NG.more (λu O=>.inl O) (aJ hX).symm G.OM.symm mI;refine ku 11 E eQ (abq hn J M O (by have:=I.fl;omega) (by have:=I.bG;omega) hq ar4 (I.jH n hn).mG (λrs d h=>(I.jH n hn).aHL h)) ?_;rintro _ w20 ⟨rfl,ayF⟩;refine⟨_,E,?_⟩;have xM:=Wd.Kr (gs:=[.Oy b1 (aR a) 51]) ayF;refine aW 2 ?_;refine dG (l':=[]) trivial (jE (q9 ?_));rw[akd ‹_› hnd hqd];exact⟨E,(Wd.less (gs:=[.Oy b1 (aR a) 51]) ayF)⟩
 refine zN 7 ?_;by_cases h22:a.kd=2
 ·refine zN 6 ?_;have xq:=S3.fC [5,5];have l7:=xq.drew;refine aU 14 l7 [1,0] ?_;refine aW 4 ?_;refine ak (v:=D (q:Int)) 4 E (l7.lV [1,0]) (λ_ afQ=>(Ey hqd (aA E E (aV (St.cl 0 afQ E E))))) ?_;refine dI ?_;refine ak (v:=.agg #[D a.ek,D a.ep,D a.ei,D a.eb,D a.eh,D a.en]) 6 E (l7.lV [1,0]) (λ_ aef=>(aA E E (fu (cs:=[D a.ek,D a.ep,D a.ei,D a.eb,D a.eh,D a.en]) (St.rg 0 aef E (oG (x:=5) (m:=6) E))))) ?_;refine aW 4 ?_;refine bJ 11 ?_;refine kG (i:=11) E E (v:=D (m.calls:Int)) (wn E) E E (aA E E (aV (St.cl 0 l7 E apR))) ?_;refine dI ?_;refine ak (v:=.agg #[D 0,D (-1),D a.nd,D (q:Int),D 0,D 0,D 0,D a.ek,D a.ep,D a.ei,D a.eb,D a.eh,D a.en,.slice none 0 0,.bool false,D (m.calls:Int),D 0,D 0,D 0,D 0,D 0,D 0,D 0]) 12 E (l7.lV [1,0]) (λ_ _=>iJ) ?_;refine bJ 13 ?_;refine ku 13 E eQ (jl (x:=⟨xB a.nd q a.op m.calls,none,0⟩) l7 (by have:=I.fl;omega)) ?_;rintro _ w41 ⟨rfl,A37,c38,axG,aro,Ee⟩;refine⟨_,E,?_⟩;refine aW 2 ?_;refine zN 6 ?_;refine vv (aA E E (aV (St.cl 0 Ee E apR))) ?_;refine vv (v:=D ((m.calls+1:Nat):Int)) jW ?_;refine zN 3 ?_;refine kZ 0 Ee kQ ?_ (hs:=by exact az7);intro w43 EK;refine zQ ?_;refine dG (l':=[]) trivial (jE (q9 ?_));rw[ake ‹_› hqd];subst aro;have tC:=EK.bq [2];have zf:=tC.fC [6,6,3,3,6,6,6];rw[<-uf]at zf;exact⟨E,Wd.fq (X':=X) (z':=z) (Ls:=[]) (fA:=A37) (fc:=c38) (fx:=R.fx++[(⟨xB a.nd q a.op m.calls,none,0⟩:LX)]) (sA:=R.sA) (sc:=R.sc) (tA:=R.tA) (tc:=R.tc) J M Z G hn zf NG.more (rC (kr E)) (aJ hX).symm (by rw[iP,G.OM];rfl) mI⟩
 refine zN 7 ?_;by_cases h47:a.kd=3
 ·refine zN 5 ?_;have CU:St B w0 w2 [.Oy b1 (aR a) 51]:=S3.sub (Sublist.cons_cons _ (nil_sublist _));have Zf:=S3.drew;have yM:=CU.drew;refine aU 10 yM [] ?_;refine aW 5 ?_;refine ak (v:=D (n:Int)) 6 E yM (λ_ arq=>(Ey hnd (aA E E (aV (St.cl 0 arq E E))))) ?_;refine bJ 4 ?_;refine kG (i:=4) E E (v:=.slice (aD ab ao) 5 R.nc) (wn E) E E (aA E E (aV (St.cl 4 Zf E CG))) ?_;refine dI ?_;refine ak 7 E yM (λ_ _=>nC n) ?_;refine bJ 8 ?_;refine kG (i:=8) E E (v:=pV kn 0) (wn E) E E (aA E E (aV (J▸yF harr hn Zf (PO 8 E hL)))) ?_;refine dI ?_;refine bJ 9 ?_;have wY:=Zf.fC [7,7,7,7,7,7,7];have zT:=wY;rw[<-uf]at zT;have aHM:=Wd.fq (m:=m) (m':=m) (H:=H) (H':=H) (fs:=(.Oy b1 (aR a) 51)::fs) (X':=X) (z':=z) (Ls:=[]) (fA:=R.fA) (fc:=R.fc) (fx:=R.fx) (sA:=R.sA) (sc:=R.sc) (tA:=R.tA) (tc:=R.tc) (rr:=(.Oy b1 (aR a) 51)::rr) J M (by rw[<-Z]<;>rfl) G hn zT NG.more (λu O=>.inl O) (aJ hX).symm G.OM.symm mI;refine ku 9 E eQ (abp hn J M O (by have:=I.fi hn;omega) (by have:=I.bG;have:=I.il hn;omega) (by have:=I.turn n hn;omega) aHM (I.jH n hn).mG (λl hl=>lM (I.jk n hn l hl)) (λp h=>(I.jH n hn).fit h)) ?_;rintro _ w61 ⟨rfl,ayG⟩;refine⟨_,E,?_⟩;have Ef:=Wd.Kr (gs:=[.Oy b1 (aR a) 51]) ayG;refine aW 2 ?_;refine dG (l':=[]) trivial (jE (q9 ?_));rw[akf ‹_› hnd];exact⟨E,(Wd.less (gs:=[.Oy b1 (aR a) 51]) ayG)⟩
 refine zN 8 ?_;by_cases h63:a.kd=4
 ·refine zN 11 ?_;refine vv (v:=D (a.at_.toNat:Int)) (Ey ar7 (aA E E (aV (St.cl 0 S3 E E)))) ?_;refine zN 6 ?_;have S64:=S3.fC [7,7,7,7,7,7,7];have Ke:=S64;rw[<-uf]at Ke;have aHN:=Wd.fq (m:=m) (m':=m) (H:=H) (H':=H) (fs:=(.Oy b1 (aR a) 51)::fs) (X':=X) (z':=z) (Ls:=[]) (fA:=R.fA) (fc:=R.fc) (fx:=R.fx) (sA:=R.sA) (sc:=R.sc) (tA:=R.tA) (tc:=R.tc) (rr:=(.Oy b1 (aR a) 51)::rr) J M (by rw[<-Z]<;>rfl) G hn Ke NG.more (λu O=>.inl O) (aJ hX).symm G.OM.symm mI;refine dZ eQ (FV hn J M O (by have:=I.fl;omega) (by have:=I.bQ;omega) (λj hj=>by have:=I.il hj;omega) aHN (λl hl=>(I.nD l hl).tgt)) ?_;rintro _ w68 ⟨rfl,ayH⟩;refine⟨_,E,?_⟩;have CQ:=Wd.Kr (gs:=[.Oy b1 (aR a) 51]) ayH;refine zQ ?_;refine dG (l':=[]) trivial (jE (q9 ?_));rw[aou ‹_›];exact⟨E,(Wd.less (gs:=[.Oy b1 (aR a) 51]) ayH)⟩
 refine zN 7 ?_;by_cases h70:a.kd=5
 ·refine zN 11 ?_;refine vv (v:=D (a.at_.toNat:Int)) (Ey ar7 (aA E E (aV (St.cl 0 S3 E E)))) ?_;refine zN 6 ?_;have vS:=S3.fC [7,7,7,7,7,7,7];have tQ:=vS;rw[<-uf]at tQ;have aHO:=Wd.fq (m:=m) (m':=m) (H:=H) (H':=H) (fs:=(.Oy b1 (aR a) 51)::fs) (X':=X) (z':=z) (Ls:=[]) (fA:=R.fA) (fc:=R.fc) (fx:=R.fx) (sA:=R.sA) (sc:=R.sc) (tA:=R.tA) (tc:=R.tc) (rr:=(.Oy b1 (aR a) 51)::rr) J M (by rw[<-Z]<;>rfl) G hn tQ NG.more (λu O=>.inl O) (aJ hX).symm G.OM.symm mI;refine dZ eQ (FV hn J M O (by have:=I.fl;omega) (by have:=I.bQ;omega) (λj hj=>by have:=I.il hj;omega) aHO (λl hl=>(I.nD l hl).tgt)) ?_;rintro _ w75 ⟨rfl,ayI⟩;refine⟨_,E,?_⟩;have Pv:=Wd.Kr (gs:=[.Oy b1 (aR a) 51]) ayI;refine zQ ?_;refine dG (l':=[]) trivial (jE (q9 ?_));rw[aov ‹_›];exact⟨E,(Wd.less (gs:=[.Oy b1 (aR a) 51]) ayI)⟩
 refine zN 6 ?_;by_cases h77:a.kd=6
 ·refine zN 8 ?_;refine vv (v:=D (a.at_.toNat:Int)) (Ey ar7 (aA E E (aV (St.cl 0 S3 E E)))) ?_;refine zN 6 ?_;have Mf:=S3.fC [7,7,7,7,7,7,7];have Eh:=Mf;rw[<-uf]at Eh;have aHP:=Wd.fq (m:=m) (m':=m) (H:=H) (H':=H) (fs:=(.Oy b1 (aR a) 51)::fs) (X':=X) (z':=z) (Ls:=[]) (fA:=R.fA) (fc:=R.fc) (fx:=R.fx) (sA:=R.sA) (sc:=R.sc) (tA:=R.tA) (tc:=R.tc) (rr:=(.Oy b1 (aR a) 51)::rr) J M (by rw[<-Z]<;>rfl) G hn Eh NG.more (λu O=>.inl O) (aJ hX).symm G.OM.symm mI;refine dZ eQ (FV hn J M O (by have:=I.fl;omega) (by have:=I.bQ;omega) (λj hj=>by have:=I.il hj;omega) aHP (λl hl=>(I.nD l hl).tgt)) ?_;rintro _ w82 ⟨rfl,ayJ⟩;refine⟨_,E,?_⟩;have Fv:=Wd.Kr (gs:=[.Oy b1 (aR a) 51]) ayJ;refine zQ ?_;refine dG (l':=[]) trivial (jE (q9 ?_));rw[aow ‹_›];exact⟨E,(Wd.less (gs:=[.Oy b1 (aR a) 51]) ayJ)⟩
 refine zN 7 ?_;by_cases h84:a.kd=7
 ·refine zN 10 ?_;refine vv (aA E E (aV (St.cl 4 S3 E Vx))) ?_;refine zN 8 ?_;refine kZ 4 S3 kQ ?_ (hs:=by exact ark);intro w85 Ei;refine zN 10 ?_;have JC:=Ei.bq [0];have Px:=JC.nil 119 23;have Pw:=((((((((Px.bring 5 E).bring 7 E).bring 7 E).bring 3 E).bring 7 E).bring 7 E).bring 7 E).bring 7 E);rw[<-uf]at Pw;obtain⟨m1,hm1⟩:∃k,k=({m with OM:=[]}:Cl):=⟨_,E⟩;have HW1:Wd K B w0 w85 ((oL R.fA R.fx R.fc)::fs) m1 (R.fx++H):=by
   rw[hm1];exact Wd.fq (m:=m) (H:=H) (fs:=(oL R.fA R.fx R.fc)::fs) (X':=X) (z':=z) (Ls:=[]) (fA:=none) (fc:=0) (fx:=[]) (sA:=R.sA) (sc:=R.sc) (tA:=R.tA) (tc:=R.tc) (rr:=(oL R.fA R.fx R.fc)::rr) J M (by rw[<-Z];rfl) G hn Pw NG.more (λu O=>by simp at O) (aJ hX).symm E (λu O=>(aP.1 O).elim (λh=>.inr ((G.flo u h).mono λf hf=>bM _ hf)) .inl)
  have hB0:=akb I;rw[<-hm1]at hB0;refine iO (X:=Nat×Cl) (λxv=>[(0,pV kw 0),(90,.slice R.fA R.fx.length R.fc),(91,D (R.fx.length:Int)),(92,D (xv.1:Int))]) (λxv wr=>(Wd K B w0 wr ((oL R.fA R.fx R.fc)::fs) xv.2 (R.fx.drop xv.1++H))/\(m.OM.foldl Cl.P6 m1=(m.OM.drop xv.1).foldl Cl.P6 xv.2)/\(xv.1<=R.fx.length)/\(dW xv.2 (4*k+xv.1) (500000*k) (500000*k+xv.1) k)/\St B w0 wr [.own 119 23 (.slice R.fA R.fx.length R.fc) R.fx.length ((R.fx).flatMap LX.cells)]) (λxv=>R.fx.length-xv.1) (0,m1) ?_ ?_ ?_
  ·exact⟨HW1,E,aG _,hB0,Wd.Kr (gs:=[.own 119 23 (.slice R.fA R.fx.length R.fc) R.fx.length ((R.fx).flatMap LX.cells)]) HW1⟩
  ·exact lU
  rintro⟨k2,mm⟩ w90 ⟨ar8,ar9,aHQ,agf,Uo⟩
  try dsimp only at ar8 ar9 aHQ agf Uo
  refine cB (l':=[(0,pV kw 0),(90,.slice R.fA R.fx.length R.fc),(91,D (R.fx.length:Int)),(92,D (k2:Int))]) lU ?_;obtain⟨R3,G3,Ze⟩:=ar8.open hn;have WX:=G3.jH n hn;obtain⟨X3,WY⟩:∃X,mm.aj n=X:=⟨_,E⟩;obtain⟨z3,hz3⟩:∃z,R3.nx n=z:=⟨_,E⟩;rw[WY,hz3]at Ze WX;obtain⟨rr3,LK⟩:∃r,iW K R3 mm fs n=r:=⟨_,E⟩;have IJ:St B w0 w90 ((bN kn n X3.up z3.tA X3.data z3.tc X3.OY z3.bb X3.PS X3.PZ z3.iA z3.ix z3.ic z3.pv X3.turn)::(oB z3.bb z3.bx)::(fL z3.iA z3.ix z3.ic)::(bW kw (.slice R3.nA 5 R3.nc) mm.off R3.fA R3.fx R3.fc mm.PU R3.sA mm.bG R3.sc R3.tA mm.bQ R3.tc mm.calls)::(oL R3.fA R3.fx R3.fc)::(oS R3.sA mm.bG R3.sc)::(oT R3.tA mm.bQ R3.tc)::(oL R.fA R.fx R.fc)::rr3):=by rw[<-LK];subst J;subst M;exact Ze
  clear Ze;refine zN 2 ?_;by_cases h97:(k2:Int)< (R.fx.length:Int)
  ·refine zN 10 ?_;obtain⟨x,hx⟩:∃x,R.fx[k2]? =some x:=⟨_,eT Y⟩;have hxf:m.OM[k2]? =some x.l:=by rw[<-G.OM,vX,hx];rfl
   have hxb:=I.nD x.l (jN hxf);refine zQ ?_;obtain⟨fb,fo,hfA⟩:=rd_some (St.Uz 7 IJ E) Y;refine vv (v:=pV fb (fo+k2*23)) (bF E E E (jF k2 hfA underlying91 kQ Y Y)) ?_;refine vv (v:=.agg (LX.row x)) (aA E E (fu (cs:=LX.cells x) (λj u O=>by rw[kR];exact LD (St.Uz 7 IJ E) hfA (dF (enc:=LX.cells) (sz:=23) (k:=k2) (λ_=>E) hx O)))) ?_;refine iU IJ agH ?_;intro b98 w99 yT;refine stA 0 yT kQ ?_ (h1:=Gu _);intro awx wh;refine zN 5 ?_;have xX:=wh.bq [0];have aA5:=Wd.fq (m:=mm) (m':=mm) (H:=R.fx.drop k2++H) (H':=x::(R.fx.drop (k2+1)++H)) (fs:=(oL R.fA R.fx R.fc)::fs) (X':=X3) (z':=z3) (Ls:=[]) (fA:=R3.fA) (fc:=R3.fc) (fx:=R3.fx) (sA:=R3.sA) (sc:=R3.sc) (tA:=R3.tA) (tc:=R3.tc) (rr:=(oL R.fA R.fx R.fc)::rr3) J M (by rw[<-LK];rfl) G3 hn ((((((((xX.bring 7 E).bring 7 E).bring 7 E).bring 7 E).bring 7 E).bring 7 E).bring 7 E).bring 7 E) WX.more (λu O=>.inl O) (aJ WY).symm G3.OM.symm (by rw[Uu hx];exact mI);obtain⟨jj,hjj,htt⟩:=hxb.tgt;refine dZ eQ (FU (m:=mm) (x:=x) hjj E M O (by have:=(agf).fl;omega) (by have:=(agf).bQ;omega) (by have:=(agf).il hjj;omega) aA5 htt) ?_;rintro _ aeN ⟨rfl,agT⟩;refine⟨_,E,?_⟩;obtain⟨mc,hmc⟩:∃k,k=mm.P6 x.l:=⟨_,E⟩;have Hg:=Wd.Kr (gs:=[.own 119 23 (.slice R.fA R.fx.length R.fc) R.fx.length ((R.fx).flatMap LX.cells)]) agT;refine zN 4 ?_;refine vv (v:=D ((k2+1:Nat):Int)) jW ?_;refine zN 2 ?_;refine dL (k2+1,mc) ?_ lU (by first|omega|(dsimp only;omega));exact⟨(by dsimp only;rw[hmc];exact agT),(by dsimp only;rw[ar9,akc hxf,<-hmc]),uQ,(by dsimp only;rw[hmc];exact(JO agf hxb).mono Y aB Y aB),(Wd.Kr (gs:=[.own 119 23 (.slice R.fA R.fx.length R.fc) R.fx.length ((R.fx).flatMap LX.cells)]) (hmc▸agT))⟩
  refine zN 11 ?_;have BP:m.Ub a=mm:=by rw[aox ‹_›];show m.OM.foldl Cl.P6 {m with OM:=[]}=mm;rw[<-hm1,ar9,sH Y];rfl
  rw[BP];have aHR:R.fx.length<=k2:=Y;exact⟨E,Wd.less (gs:=[.own 119 23 (.slice R.fA R.fx.length R.fc) R.fx.length ((R.fx).flatMap LX.cells)]) (by have h9:=ar8;rw[sH aHR]at h9;exact h9)⟩
 refine zN 7 ?_;by_cases arR:a.kd=8
 ·refine zN 6 ?_;refine je S3 mixed kQ ?_;refine zN 3 ?_;refine uv (v:=.slice (aD ab ao) 5 R.nc) (λ_ aA6=>(aA E E (aV (St.cl 4 aA6 E CG)))) ?_;refine zQ ?_;refine uv (v:=D (n:Int)) (λ_ aA7=>(Ey hnd (aA E E (aV (St.cl 0 aA7 E E))))) ?_;refine uv (λ_ _=>nC n) ?_;refine uv (v:=pV kn 0) (λ_ aA8=>(aA E E (aV (J▸yF harr hn aA8 (PO 8 E hL))))) ?_;refine zQ ?_;refine jB λarG zV=>?_;refine zN 9 ?_
  cases aLa:(X.up)
  ·refine cB (l':=[(3,pV b1 0),(7,pV kn 0),(113,.bool false)]) Ip (oF E (uh (jE (q9 ?_))));have JK:=zV.bq [0];have Cw:=JK;rw[<-uf]at Cw;have aA9:=Wd.fq (m:=m) (m':=m) (H:=H) (H':=H) (fs:=fs) (X':=X) (z':=z) (Ls:=[]) (fA:=R.fA) (fc:=R.fc) (fx:=R.fx) (sA:=R.sA) (sc:=R.sc) (tA:=R.tA) (tc:=R.tc) (rr:=rr) J M (by rw[<-Z]<;>rfl) G hn Cw NG.more (λu O=>.inl O) (aJ hX).symm G.OM.symm mI;rw[Sd ‹_› hnd,agc (by rw[hX];assumption)];exact⟨E,aA9⟩
  refine cB (l':=[(3,pV b1 0),(7,pV kn 0),(113,.bool true)]) Ip (oD E (bH ?_));have Rs:=zV.drew;refine aU 14 Rs [1] ?_;refine aW 6 ?_;refine bJ 4 ?_;refine kG (i:=4) E E (v:=.agg #[.slice z.tA X.data.length z.tc,D X.OY]) (wn E) E E (aA E E (fu (cs:=[.slice z.tA X.data.length z.tc,D X.OY]) (St.rg 1 Rs E (u6)))) ?_;refine dI ?_;refine bJ 7 ?_;refine ku 7 E eQ (DJ (X8 z.tA X.data.length z.tc X.data X.OY a.kp _ (NG.Al.rd Rs (PO 8 E hL)))) ?_;rintro _ aeh ⟨ala,asa,rfl,aHS⟩;refine⟨_,E,?_⟩;have Cx:=Rs.ext aHS E;refine aW 6 ?_;refine bJ 13 ?_;refine snz (row':=eP n X.up (.slice ala ((rT X.data X.OY a.kp).1.length) asa) ((rT X.data X.OY a.kp).2.1) (.slice (aD z.bb 0) 4 4) X.PS X.PZ (.slice z.iA z.ix.length z.ic) (z.pv) X.turn) 13 E 2 Cx kQ ?_;intro ax2 K8;refine aW 2 ?_;refine zN 6 ?_;refine kZ (row':=eP n false (.slice ala ((rT X.data X.OY a.kp).1.length) asa) ((rT X.data X.OY a.kp).2.1) (.slice (aD z.bb 0) 4 4) X.PS X.PZ (.slice z.iA z.ix.length z.ic) (z.pv) X.turn) 2 K8 kQ ?_;intro aEG Zw;refine zN 4 ?_;have OE:=Zw.fC [2];refine dZ eQ (qC OE O) ?_;rintro _ awD ⟨rfl,aBa,QH⟩;refine⟨_,E,?_⟩;have Cy:=QH.bq [5,4,3];refine zQ ?_;refine dG (l':=[]) trivial (jE (q9 ?_));rw[Sd ‹_› hnd,akg (by rw[hX];assumption)];have afl:=Cy.EH 119 23;have QJ:=afl.fC [7,7,7,7,4,6,6];rw[<-uf]at QJ;exact⟨E,Wd.fq (X':=X.Uw a.kp) (z':={bb:=aBa,tA:=ala,tc:=asa,bx:=vO,iA:=none,ic:=0,ix:=[],pv:=.nilFunc}) (Ls:=[.dR 1 ala ((rT X.data X.OY a.kp).1.length) (Jq ((rT X.data X.OY a.kp).1))]) (fA:=R.fA) (fc:=R.fc) (fx:=R.fx) (sA:=R.sA) (sc:=R.sc) (tA:=R.tA) (tc:=R.tc) J M Z G hn QJ ⟨E,RX,Ro.dR (aK _ (aF.2 E)),E,λy hy=>(by cases hy),E⟩ (λu O=>.inl O) (by rw[hX];rfl) G.OM.symm mI⟩
 refine zN 7 ?_;by_cases aP3:a.kd=9
 ·refine zN 5 ?_;have arV:St B w0 w2 [.Oy b1 (aR a) 51]:=S3.sub (Sublist.cons_cons _ (nil_sublist _));have Zf:=S3.drew;have OT:=arV.drew;refine aU 10 OT [] ?_;refine aW 5 ?_;refine ak (v:=D (n:Int)) 6 E OT (λ_ agL=>(Ey hnd (aA E E (aV (St.cl 0 agL E E))))) ?_;refine bJ 4 ?_;refine kG (i:=4) E E (v:=.slice (aD ab ao) 5 R.nc) (wn E) E E (aA E E (aV (St.cl 4 Zf E CG))) ?_;refine dI ?_;refine ak 7 E OT (λ_ _=>nC n) ?_;refine bJ 8 ?_;refine kG (i:=8) E E (v:=pV kn 0) (wn E) E E (aA E E (aV (J▸yF harr hn Zf (PO 8 E hL)))) ?_;refine dI ?_;refine bJ 9 ?_;have La:=Zf.fC [7,7,7,7,7,7,7];have ZE:=La;rw[<-uf]at ZE;have Z0:=Wd.fq (m:=m) (m':=m) (H:=H) (H':=H) (fs:=(.Oy b1 (aR a) 51)::fs) (X':=X) (z':=z) (Ls:=[]) (fA:=R.fA) (fc:=R.fc) (fx:=R.fx) (sA:=R.sA) (sc:=R.sc) (tA:=R.tA) (tc:=R.tc) (rr:=(.Oy b1 (aR a) 51)::rr) J M (by rw[<-Z]<;>rfl) G hn ZE NG.more (λu O=>.inl O) (aJ hX).symm G.OM.symm mI;refine ku 9 E eQ (Yy hn J M O (by have:=I.fl;omega) (by have:=I.bG;omega) Z0 (I.jH n hn).U5.1 (I.jH n hn).U5.2.1 (I.jH n hn).U5.2.2.1 (I.jH n hn).U5.2.2.2 hsh) ?_;rintro _ aD4 ⟨rfl,aqm⟩;refine⟨_,E,?_⟩;have awp:=Wd.Kr (gs:=[.Oy b1 (aR a) 51]) aqm;refine aW 2 ?_;refine dG (l':=[]) trivial (jE (q9 ?_));rw[aga ‹_› hnd];exact⟨E,(Wd.less (gs:=[.Oy b1 (aR a) 51]) aqm)⟩
 refine zN 8 ?_;refine vv (v:=D (q:Int)) (Ey hqd (aA E E (aV (St.cl 0 S3 E E)))) ?_;refine zN 2 ?_;obtain⟨PW,hPW⟩:∃r,aN m.off q=r:=⟨_,E⟩;obtain⟨nn,hnn,hwn⟩:=aot hPW;have aeR:=S3.fC [7,7,7,7,7,7,7];have Zq:=aeR;rw[<-uf]at Zq;have aBb:=Wd.fq (m:=m) (m':=m) (H:=H) (H':=H) (fs:=(.Oy b1 (aR a) 51)::fs) (X':=X) (z':=z) (Ls:=[]) (fA:=R.fA) (fc:=R.fc) (fx:=R.fx) (sA:=R.sA) (sc:=R.sc) (tA:=R.tA) (tc:=R.tc) (rr:=(.Oy b1 (aR a) 51)::rr) J M (by rw[<-Z]<;>rfl) G hn Zq NG.more (λu O=>.inl O) (aJ hX).symm G.OM.symm mI;refine dZ eQ (abr hnn E M O (by have:=I.fl;omega) (by have:=I.bG;omega) hq aBb (I.jH nn hnn).mG hPW hwn) ?_;rintro _ arw ⟨rfl,aqn⟩;refine⟨_,E,?_⟩;have ZF:=Wd.Kr (gs:=[.Oy b1 (aR a) 51]) aqn;refine zQ ?_;refine dG (l':=[]) trivial (jE (q9 ?_));rw[agb ‹_› ‹_› ‹_› ‹_› ‹_› ‹_› ‹_› ‹_› ‹_› hqd];exact⟨E,(Wd.less (gs:=[.Oy b1 (aR a) 51]) aqn)⟩
def yJ:List Ac->Int
 |[]=>0
 |a::l=>if dn a≠0 then dn a else yJ l
def EB(l:List Ac):Int:=if 100000<l.length then 1 else yJ l
section
variable {l:List Ac}{k:Nat}{x:Ac}{fl calls q:Nat}{U:Nat->Bool}{d:TW}{bv sv tv fv nv:Value}{sh:Nat->Nat->Int×Int}{K:CK}{R:CX}{B n:Nat}{w0 w:World}{fs gs N mP L LC:List OJ}{m:Cl}{H:List LX}{X:Nd}{z:NX}{ps:List (Nat×List BX)}{p:Nat×List BX}{bs:List BX}{bB:Nat}
def avo(h:l[k]? =some x)(I:dn x=0):yJ (l.drop k)=yJ (l.drop (k+1)):=by rw[Uu h,yJ,ah (λe=>e I)]
def aoy(h:l[k]? =some x)(I:¬dn x=0):yJ (l.drop k)=dn x:=by rw[Uu h,yJ,au I]
def TG(h:¬ 100000<l.length):EB l=yJ l:=ah h
def aki(h:100000<l.length):EB l=1:=au h
def Oj:∀ {l:List Ac},yJ l=0-> ∀a∈l,dn a=0
 |[],_,a,ha=>by simp at ha
 |x::l,h,a,ha=>by
  rw[yJ]at h
  split at h
  ·rename_i hx;exact av h hx
  rename_i hx
  rcases iq.1 ha with rfl|ha
  ·exact fE.1 hx
  exact Oj h a ha
def aoz(h:EB l=0):l.length<=100000/\ ∀a∈l,dn a=0:=by
 unfold EB at h
 split at h
 ·cases h
 exact⟨by omega,Oj h⟩
def aoA(h:l[k]? =some x):l.take (k+1)=l.take k++[x]:=by rw[qY,h];rfl
def akj{m:Cl}{l:List Ac}:m.run (l++[x])=(m.run l).Ub x:=by unfold Cl.run;rw[uj];rfl
def Jh(fl:Nat)(U:Nat->Bool)(d:TW)(bv sv tv:Value)(calls:Nat):List Value:=
 [D (fl:Int),.bool (U 0),.bool (U 1),.bool (U 2),.bool (U 3),.bool (U 4),D d.p0.node,D d.p0.ME,D d.p1.node,D d.p1.ME,D d.p2.node,D d.p2.ME,D d.p3.node,D d.p3.ME,bv,sv,tv,D (calls:Int)]
def qM(fl:Nat)(U:Nat->Bool)(d:TW)(bv sv tv:Value)(calls:Nat):Array Value:=(Jh fl U d bv sv tv calls).toArray
def aoB:Array Value:=oZ
def aqo(h1:bv.oneCell'=true)(I:sv.oneCell'=true)(J:tv.oneCell'=true):∀u∈(qM fl U d bv sv tv calls).toList,u.oneCell'=true:=by
 intro u h;simp only[qM,Jh,mem_cons,not_mem_nil,or_false]at h
 rcases h with rfl|rfl|rfl|rfl|rfl|rfl|rfl|rfl|rfl|rfl|rfl|rfl|rfl|rfl|rfl|rfl|rfl|rfl<;>first|rfl|assumption
def Z4{U7 I o:Nat}{U':Nat->Bool}{d':TW}{J M O:Value}{vs:List Value}(h:o+vs.length<=18)(he:(Jh fl U d bv sv tv calls).take o++vs++(Jh fl U d bv sv tv calls).drop (o+vs.length)=Jh U7 U' d' J M O I):
 dU (qM fl U d bv sv tv calls) o vs=qM U7 U' d' J M O I:=Array.ext' (by rw[jw _ _ _ h];exact he)
def aHT{U7:Nat}:dU (qM fl U d bv sv tv calls) 0 [D (U7:Int)]=qM U7 U d bv sv tv calls:=Z4 (fV E) E
def aHU{d':TW}:dU (qM fl U d bv sv tv calls) 6 d'.cells=qM fl U d' bv sv tv calls:=Z4 (fV E) E
def aqp{x:Value}:dU (qM fl U d bv sv tv calls) 14 [x]=qM fl U d x sv tv calls:=Z4 (fV E) E
def aBd(h:q<5){v:Bool}:dU (qM fl U d bv sv tv calls) (1+q*1) [.bool v]=qM fl (PN U q v) d bv sv tv calls:=by
 rcases five h with rfl|rfl|rfl|rfl|rfl<;>exact Z4 (fV E) E
def aoC:∀(j:Nat) (u:Value),(qM 0 (λ_=>false) (⟨⟨0,0⟩,⟨0,0⟩,⟨0,0⟩,⟨0,0⟩⟩:TW) (.slice none 0 0) sv tv calls).toList[j]? =some u->(nJ nv d fv sh sv tv calls)[50+j]? =some u:=by
 intro j u h;have J:j<18:=(dw.1 h).1;have I:j=0\/j=1\/j=2\/j=3\/j=4\/j=5\/j=6\/j=7\/j=8\/j=9\/j=10\/j=11\/j=12\/j=13\/j=14\/j=15\/j=16\/j=17:=Y
 rcases I with rfl|rfl|rfl|rfl|rfl|rfl|rfl|rfl|rfl|rfl|rfl|rfl|rfl|rfl|rfl|rfl|rfl|rfl<;>exact h
def kJ(p:Nat×List BX):List Value:=[.slice (aD p.1 0) 4 4]
structure P1 (L:List OJ)(m:Cl)(j:Nat)(p:Nat×List BX):Prop where
 rd:Ro L 6 (aD p.1 0) 4 (p.2.flatMap BX.cells)
 bm:p.2.map BX.b=vB (m.aj j).view
 bo:∀y∈p.2,Eo L y
def P1.mono{L L':List OJ}{m:Cl}{j:Nat}{p:Nat×List BX}(h:P1 L m j p)(I:∀f∈L,f∈L'):P1 L' m j p:=⟨h.rd.mono I,h.bm,λy J=>(h.bo y J).mono I⟩
def Z5(L:List OJ)(m:Cl)(row:Array Value):Prop:= ∃(U:Nat->Bool) (BA:Option Addr) (bc:Nat) (sA:Option Addr) (sc:Nat) (tA:Option Addr) (tc:Nat) (ps:List (Nat×List BX)),row=qM m.OM.length U m.off (.slice BA 5 bc) (.slice sA m.bG.length sc) (.slice tA m.bQ.length tc) m.calls/\(∀j,j<5->U j=(m.aj j).up)/\ps.length=5/\
 Ro L 1 BA 5 (ps.flatMap kJ)/\Ro L 14 sA m.bG.length (m.bG.flatMap l9.cells)/\Ro L 7 tA m.bQ.length (m.bQ.flatMap tZ.cells)/\ ∀j p,ps[j]? =some p->P1 L m j p
def Wd.top(h:Wd K B w0 w fs m H):St B w0 w fs:=by
 obtain⟨R,_,S⟩:=h;exact S.sub (Gi _ _)
open Classical in
def St.shut(hn:n<5)(S:St B w0 w (mJ K n (m.aj n) (R.nx n)++(xE K R m++(gs++iW K R m fs n)))):St B w0 w (gs++(fs++nO K R m)):=by
 refine S.perm (uo.2 λa=>?_);have h1:=uo.1 (xR (λj=>mJ K j (m.aj j) (R.nx j)) hn) a;unfold iW nO nZ;simp only[List.count_append]at h1⊢;omega
open Classical in
def St.aqr(hn:n<5)(S:St B w0 w (mJ K n (m.aj n) (R.nx n)++(xE K R m++(gs++((N++(fs++(nZ K R m n++R.L)))++mP))))):St B w0 w (gs++((mP++N)++(fs++nO K R m))):=by
 refine S.perm (uo.2 λa=>?_);have h1:=uo.1 (xR (λj=>mJ K j (m.aj j) (R.nx j)) hn) a;unfold nO nZ;simp only[List.count_append]at h1⊢;omega
open Classical in
def St.aHV(hn:n<5)(S:St B w0 w (gs++(N++(fs++nO K R m)))):St B w0 w (mJ K n (m.aj n) (R.nx n)++(xE K R m++(gs++(N++(fs++(nZ K R m n++R.L)))))):=by
 refine S.perm (uo.2 λa=>?_);have h1:=uo.1 (xR (λj=>mJ K j (m.aj j) (R.nx j)) hn) a;unfold nO nZ;simp only[List.count_append]at h1⊢;omega
open Classical in
def St.aBe(S:St B w0 w (gs++(N++(fs++LC)))):St B w0 w ((gs++(N++LC))++fs):=by
 refine S.perm (uo.2 λa=>?_);simp only[List.count_append];omega
def Sg(J:ps.length=k)(h:∀j p,ps[j]? =some p->P1 L m j p)(hn:P1 L m k p):∀j q,(ps++[p])[j]? =some q->P1 L m j q:=λj q I=>by
 by_cases e:j<ps.length
 ·rw[oC e]at I;exact h j q I
 rw[pO Y]at I;have:j-ps.length=0:=by
  have:=(dw.1 I).1;rw[l8]at this;omega
 rw[this]at I
 cases I;rw[show j=k by omega];exact hn
def avp(h:k<5)(I:R.nx k=z):OJ.own 42 6 (.slice (aD z.bb 0) 4 4) 4 (z.bx.flatMap BX.cells)∈nO K R m:=by
 subst I;refine aK _ (bM _ (Dj.2 ⟨k,KH.2 h,?_⟩));exact dM _ (gJ ..)
def aoD(h:fF K R.L k (m.aj k) (R.nx k))(J:m.aj k=X)(I:R.nx k=z)(M:X.up=true)(O:k<5):P1 (N++nO K R m) m k (z.bb,z.bx):=by
 have Z:=avp (K:=K) (m:=m) O I;subst J;subst I;refine⟨Ro.own (aK _ Z),?_,λy hy=>(h.Wu y hy).mono λf hf=>aK _ (aK _ (aK _ hf))⟩;rw[fZ M];exact h.UO
def aoE(h:bs.map BX.b=vB (dK X.data X.OY))(I:∀y∈bs,y.b.Jp.length<=y.c)(J:m.aj k=X)(M:X.up=false):P1 ((OJ.own 42 6 (.slice (aD bB 0) 4 4) 4 (bs.flatMap BX.cells)::(gT bs++N))++LC) m k (bB,bs):=by
 subst J;refine⟨Ro.own (bM _ (gJ ..)),?_,λy O=>(Sb I y O).mono λf Z=>bM _ (dM _ (bM _ Z))⟩;unfold Nd.view;rw[ah (by rw[M];simp)];exact h
def WZ(h:∀j,j<k->U j=(m.aj j).up)(I:m.aj k=X):∀j,j<k+1->PN U k X.up j=(m.aj j).up:=λj J=>by
 by_cases e:j=k
 ·rw[e,Jo,I]
 rw[Ox e];exact h j Y
def aoF{OA:Option Addr}{h:Nat}(G:Good K R m H)(I:ps.length=5)(O:∀j,j<5->U j=(m.aj j).up)(J:OJ.own 43 1 (.slice OA ps.length h) ps.length (ps.flatMap kJ)∈L)(M:∀f∈nO K R m,f∈L)(Z:∀j p,ps[j]? =some p->P1 L m j p):
 Z5 L m (qM R.fx.length U m.off (.slice OA ps.length h) (.slice R.sA m.bG.length R.sc) (.slice R.tA m.bQ.length R.tc) m.calls):=by
 rw[I]at J⊢;have hf:R.fx.length=m.OM.length:=by rw[<-G.OM,iE]
 have h1:OJ.own 164 14 (.slice R.sA m.bG.length R.sc) m.bG.length (m.bG.flatMap l9.cells)∈nO K R m:=bM _ (dM _ (dM _ (gJ ..)));have h2:OJ.own 56 7 (.slice R.tA m.bQ.length R.tc) m.bQ.length (m.bQ.flatMap tZ.cells)∈nO K R m:=bM _ (dM _ (dM _ (dM _ (gJ ..))));exact⟨U,OA,h,R.sA,R.sc,R.tA,R.tc,ps,by rw[hf],O,I,Ro.own J,Ro.own (M _ h1),Ro.own (M _ h2),Z⟩
end
def agh{B:Nat}{w0 w:World}{fs:List OJ}{A:Option Addr}{c:Nat}{l:List Ac}(S:St B w0 w fs)(hu:Uk B w0)(Z6:Ro fs 11 A l.length (l.flatMap Ac.cells))(hb:l.length*88<=reachBytes):
 Calls prog 16 #[.slice A l.length c] w (λe w'=>(EB l≠0->e=.returned (.tuple #[.agg aoB,D (EB l)])/\St B w0 w' fs)/\(EB l=0-> ∃row L,e=.returned (.tuple #[.agg row,D 0])/\Z5 L (lT.run l) row/\St B w0 w' (L++fs))):=by
 have hb2:=hb;unfold reachBytes at hb2;refine jc 99 func16 ?_;refine cw [0] ?_;refine zN 2 ?_;refine iU S akC ?_;intro b1 w2 S3;refine zN 8 ?_;by_cases h4:100000< (l.length:Int)
 ·refine zN 7 ?_;refine sa 0 S3 kQ ?_;intro w5 S6;refine zN 6 ?_;have S7:=S6.bq [0];have hsf:EB l=1:=aki Y;refine⟨λ_=>⟨by rw[hsf];rfl,S7⟩,λh=>?_⟩;rw[hsf]at h;exact av h (by first|decide|assumption)
 refine zN 15 ?_;refine iO (X:=Nat) (λI=>[(0,.slice A l.length c),(2,pV b1 0),(3,D 0),(18,.slice A l.length c),(19,D (l.length:Int)),(20,D (I:Int))]) (λI wr=>(I<=l.length)/\(yJ l=yJ (l.drop I))/\St B w0 wr ((.Oy b1 oZ 35)::fs)) (λI=>l.length-I) (0) ?_ ?_ ?_
 ·exact⟨aG _,E,S3⟩
 ·exact uV
 rintro k1 w8 ⟨ZO,Vp,S9⟩
 try dsimp only at ZO Vp S9
 refine cB (l':=[(0,.slice A l.length c),(2,pV b1 0),(3,D 0),(18,.slice A l.length c),(19,D (l.length:Int)),(20,D (k1:Int))]) uV (bH (aL ?_));by_cases h12:(k1:Int)< (l.length:Int)
 ·refine zN 10 ?_;obtain⟨x,hx⟩:∃x,l[k1]? =some x:=⟨_,eT Y⟩;obtain⟨ab_,ao_,hAb⟩:=DU Z6 S9 (PO 1 E fG) Y;refine zQ ?_;refine vv (v:=pV ab_ (ao_+k1*11)) (bF E E E (jF k1 hAb underlying23 kQ Y Y)) ?_;refine vv (v:=.agg (aR x)) (aA E E (fu (cs:=Ac.cells x) (λj u hu=>by rw[kR];exact p9 Z6 hAb S9 (PO 1 E fG) (dF (enc:=Ac.cells) (sz:=11) (k:=k1) (λ_=>E) hx hu)))) ?_;refine iU S9 akD ?_;intro b13 Py kP;refine sa 0 kP kQ ?_;intro w16 Bc;refine zN 5 ?_;refine UR eQ Bc (ahW x _) ?_;intro Pq xg;refine zN 6 ?_;by_cases h21:dn x=0
  ·refine zN 8 ?_;refine vv (v:=D ((k1+1:Nat):Int)) jW ?_;refine zN 2 ?_;have l6:=xg.bq [0];refine dL (k1+1) ?_ uV (by first|omega|(dsimp only;omega));exact⟨Y,(by rw[Vp];exact avo hx h21),l6⟩
  refine zN 8 ?_;refine sa 1 xg kQ ?_;intro Ma l7;refine zN 10 ?_;have nH:=l7.bq [1,0];have hsf:EB l=dn x:=by rw[TG Y,Vp];exact aoy hx h21
  refine⟨λ_=>⟨by rw[hsf];rfl,nH⟩,λh=>?_⟩;rw[hsf]at h;exact av h (by first|decide|assumption)
 refine zN 12 ?_;have ayK:EB l=0:=by rw[TG Y,Vp,sH Y];rfl
 obtain⟨aLb,hall⟩:=aoz ayK;refine dZ eQ (Yw S9 hu) ?_;rintro _ QF ⟨K,rfl,aHW⟩;refine⟨_,E,?_⟩;have agU:Wd K B w0 QF ((.Oy b1 oZ 35)::fs) lT []:=aHW;have vR:=Wd.top agU;obtain⟨kw,jC⟩:∃b,K.wb=b:=⟨_,E⟩;obtain⟨n,hn0⟩:∃n,n=0:=⟨_,E⟩;have hn:n<5:=Y;obtain⟨kn,hkn⟩:∃b,K.nb n=b:=⟨_,E⟩;rw[jC];refine zN 12 ?_;refine iO (X:=Nat×Cl) (λI=>[(2,pV b1 0),(3,D 0),(7,pV kw 0),(32,.slice A l.length c),(33,D (l.length:Int)),(34,D (I.1:Int))]) (λI wr=>(Wd K B w0 wr ((.Oy b1 oZ 35)::fs) I.2 [])/\(I.2=lT.run (l.take I.1))/\(Bs I.2 I.1)/\(Uv I.2)/\(I.1<=l.length)/\St B w0 wr ((.Oy b1 oZ 35)::fs)) (λI=>l.length-I.1) (0,lT) ?_ ?_ ?_
 ·exact⟨agU,E,arD,λ_ _=>jg _,aG _,Wd.top agU⟩
 ·exact uV
 rintro⟨k2,mm⟩ w29 ⟨afC,K6,K7,Vz,ar5,Ed⟩
 try dsimp only at afC K6 K7 Vz ar5 Ed
 refine cB (l':=[(2,pV b1 0),(3,D 0),(7,pV kw 0),(32,.slice A l.length c),(33,D (l.length:Int)),(34,D (k2:Int))]) uV ?_;obtain⟨R3,G3,Ze⟩:=afC.open hn;have WX:=G3.jH n hn;obtain⟨M,Z⟩:∃X,mm.aj n=X:=⟨_,E⟩;obtain⟨O,hz3⟩:∃z,R3.nx n=z:=⟨_,E⟩;rw[Z,hz3]at Ze WX;obtain⟨rr3,LK⟩:∃r,iW K R3 mm fs n=r:=⟨_,E⟩;have ayL:∀f∈fs,f∈rr3:=λf hf=>LK▸bM _ hf;have vU:St B w0 w29 (cN kn n M O O.pv (cF kw R3 mm ((.Oy b1 oZ 35)::rr3))):=by rw[<-LK];subst hkn;subst jC;exact Ze
 clear Ze;refine zN 2 ?_;by_cases h37:(k2:Int)< (l.length:Int)
 ·refine zN 10 ?_;obtain⟨x,hx⟩:∃x,l[k2]? =some x:=⟨_,eT Y⟩;obtain⟨ab_,ao_,hAb⟩:=DU Z6 vU (PO 8 E ayL) Y;have hxa:=agO (hall x (jN hx));refine zQ ?_;refine vv (v:=pV ab_ (ao_+k2*11)) (bF E E E (jF k2 hAb underlying23 kQ Y Y)) ?_;refine vv (v:=.agg (aR x)) (aA E E (fu (cs:=Ac.cells x) (λj u hu=>by rw[kR];exact p9 Z6 hAb vU (PO 8 E ayL) (dF (enc:=Ac.cells) (sz:=11) (k:=k2) (λ_=>E) hx hu)))) ?_;refine iU vU akD ?_;intro b38 w39 zh;refine sa 0 zh kQ ?_;intro w41 Ee;refine zN 5 ?_;have wO:=Ee.bq [0];have aHX:=Wd.fq (m:=mm) (m':=mm) (H:=[]) (H':=[]) (fs:=(.Oy b1 oZ 35)::fs) (X':=M) (z':=O) (Ls:=[]) (fA:=R3.fA) (fc:=R3.fc) (fx:=R3.fx) (sA:=R3.sA) (sc:=R3.sc) (tA:=R3.tA) (tc:=R3.tc) (rr:=(.Oy b1 oZ 35)::rr3) hkn jC (by rw[<-LK];rfl) G3 hn wO WX.more (λu hu=>.inl hu) (aJ Z).symm G3.OM.symm mI;refine dZ eQ (akh (n:=x.nd.toNat) (q:=x.qu.toNat) (by have:=hxa.nd;omega) (by have:=hxa.qu;omega) (by have:=hxa.nd;omega) (by have:=hxa.qu;omega) E jC hu aHX K7 Y hxa Vz) ?_;rintro _ w46 ⟨rfl,asb⟩;refine⟨_,E,?_⟩;have BS:=Wd.top asb;refine zN 4 ?_;refine vv (v:=D ((k2+1:Nat):Int)) jW ?_;refine zN 2 ?_;refine dL (k2+1,mm.Ub x) ?_ uV (by first|omega|(dsimp only;omega));exact⟨asb,(by dsimp only;rw[aoA hx,akj,<-K6]),(by dsimp only;exact IZ K7 hxa Y),(by dsimp only;exact Uv.Ub Vz),uQ,(Wd.top asb)⟩
 refine zN 11 ?_;have hmm:mm=lT.run l:=by rw[K6,kg Y]
 have hBs:=K7;obtain⟨R,G,S0⟩:=afC.open hn;have NG:=G.jH n hn;obtain⟨X,hX⟩:∃X,mm.aj n=X:=⟨_,E⟩;obtain⟨z,hz⟩:∃z,R.nx n=z:=⟨_,E⟩;rw[hX,hz]at S0 NG;obtain⟨rr,hrr⟩:∃r,iW K R mm fs n=r:=⟨_,E⟩;have hfr:∀f∈fs,f∈rr:=λf hf=>hrr▸bM _ hf;have CU:St B w0 w29 (cN kn n X z z.pv (cF kw R mm ((.Oy b1 oZ 35)::rr))):=by rw[<-hrr];subst hkn;subst jC;exact S0
 clear S0;have hcl:=hBs.calls;have hfl:R.fx.length=mm.OM.length:=by rw[<-G.OM,iE]
 refine zN 4 ?_;refine vv (v:=.agg (qM 0 (λ_=>false) (⟨⟨0,0⟩,⟨0,0⟩,⟨0,0⟩,⟨0,0⟩⟩:TW) (.slice none 0 0) (.slice R.sA mm.bG.length R.sc) (.slice R.tA mm.bQ.length R.tc) mm.calls)) (aA E E (fu (cs:=(qM 0 (λ_=>false) (⟨⟨0,0⟩,⟨0,0⟩,⟨0,0⟩,⟨0,0⟩⟩:TW) (.slice none 0 0) (.slice R.sA mm.bG.length R.sc) (.slice R.tA mm.bQ.length R.tc) mm.calls).toList) (St.rg 3 CU E aoC))) ?_;refine iU CU akC ?_;intro J YO yK;refine stA 0 yK kQ ?_ (h1:=by exact aqo (fl:=0) (U:=(λ_=>false)) (d:=(⟨⟨0,0⟩,⟨0,0⟩,⟨0,0⟩,⟨0,0⟩⟩:TW)) (bv:=.slice none 0 0) (sv:=.slice R.sA mm.bG.length R.sc) (tv:=.slice R.tA mm.bQ.length R.tc) (calls:=mm.calls) E E E);intro w52 CP;refine zN 2 ?_;have xw:=CP.fC [4,1];refine zQ ?_;have yL:=xw.drew;refine aU 13 yL [0] ?_;refine aW 3 ?_;refine ak (v:=.slice R.fA R.fx.length R.fc) 3 E (St.del 0 yL) (λ_ aea=>(aA E E (aV (St.cl 0 aea E Vx)))) ?_;refine aW 4 ?_;refine ak (v:=.agg ((mm.off.cells).toArray)) 8 E (St.del 0 yL) (λ_ ad6=>(aA E E (fu (cs:=(mm.off.cells)) (St.rg 0 ad6 E (Ak))))) ?_;refine dI ?_;refine bJ 10 ?_;refine snz 10 E 0 yL kQ ?_ (hs:=by exact aHT);intro YP wZ;refine aW 2 ?_;refine bJ 12 ?_;refine snz 12 E 0 wZ kQ ?_ (h1:=yD _) (hs:=by exact aHU);intro w69 Cq;refine aW 2 ?_;refine zN 3 ?_;obtain⟨ab,ao,uf⟩:=Ew G.arr Cq (PO 9 E λf hf=>hrr▸aK _ (aK _ hf));refine zN 4 ?_;refine vv (v:=.slice R.nA 5 R.nc) (aA E E (aV (St.cl 1 Cq E CG))) ?_;refine zN 5 ?_;have vS:=Cq.fC [7,7,7,4,7,7,7];have IB:=St.shut (gs:=[.Oy J (qM R.fx.length (λ_=>false) mm.off (.slice none 0 0) (.slice R.sA mm.bG.length R.sc) (.slice R.tA mm.bQ.length R.tc) mm.calls) 35,.Oy b1 oZ 35]) hn (by subst hkn;subst jC;rw[hX,hz,show iW K R mm fs n=rr from hrr];exact vS);have tQ:=IB.nil 43 1;obtain⟨LC,hLC⟩:∃f,f=nO K R mm:=⟨_,E⟩;obtain⟨LF,hLF⟩:∃f,f=fs++LC:=⟨_,E⟩;rw[<-hLC,<-hLF]at tQ;refine iO (X:=Nat×(Nat->Bool)×(List (Nat×List BX))×(Option Addr)×Nat×(List OJ)) (λI=>[(2,pV b1 0),(3,D 0),(10,pV J 0),(60,.slice R.nA 5 R.nc),(61,D 5),(62,D (I.1:Int))]) (λI wr=>(I.1<=5)/\(I.2.2.1.length=I.1)/\(∀j p,I.2.2.1[j]? =some p->P1 (I.2.2.2.2.2++LC) mm j p)/\(∀j,j<I.1->I.2.1 j=(mm.aj j).up)/\St B w0 wr ((.own 43 1 (.slice I.2.2.2.1 I.2.2.1.length I.2.2.2.2.1) I.2.2.1.length ((I.2.2.1).flatMap kJ))::(.Oy J (qM R.fx.length I.2.1 mm.off (.slice I.2.2.2.1 I.2.2.1.length I.2.2.2.2.1) (.slice R.sA mm.bG.length R.sc) (.slice R.tA mm.bQ.length R.tc) mm.calls) 35)::(.Oy b1 oZ 35)::(I.2.2.2.2.2++LF))) (λI=>5-I.1) (0,(λ_=>false),[],none,0,[]) ?_ ?_ ?_
 ·exact⟨aG _,E,(λj p hp=>by simp at hp),(λj hj=>av hj (Tf _)),tQ⟩
 ·exact uV
 rintro⟨k,U9,ps,OA,oc,N9⟩ w74 ⟨ayM,agi,alb,alc,Jy⟩
 try dsimp only at ayM agi alb alc Jy
 refine cB (l':=[(2,pV b1 0),(3,D 0),(10,pV J 0),(60,.slice R.nA 5 R.nc),(61,D 5),(62,D (k:Int))]) uV ?_;have hk5:k<=5:=ayM;refine zN 2 ?_;by_cases h80:(k:Int)<5
 ·refine zN 10 ?_;have hk4:k<5:=Y;have S9:=St.aHV (n:=k) (gs:=[.own 43 1 (.slice OA ps.length oc) ps.length ((ps).flatMap kJ),.Oy J (qM R.fx.length U9 mm.off (.slice OA ps.length oc) (.slice R.sA mm.bG.length R.sc) (.slice R.tA mm.bQ.length R.tc) mm.calls) 35,.Oy b1 oZ 35]) (N:=N9) (fs:=fs) hk4 (by rw[<-hLC,<-hLF];exact Jy);obtain⟨M,Z⟩:∃X,mm.aj k=X:=⟨_,E⟩;obtain⟨O,hz3⟩:∃z,R.nx k=z:=⟨_,E⟩;obtain⟨knk,ald⟩:∃b,K.nb k=b:=⟨_,E⟩;obtain⟨rk,Qu⟩:∃r,fs++(nZ K R mm k++R.L)=r:=⟨_,E⟩;have WX:=G.jH k hk4;rw[Z,hz3]at S9 WX;rw[Qu]at S9;have hLk:∀f∈R.L,f∈rk:=λf hf=>Qu▸aK _ (aK _ hf);have yw:St B w0 w74 (cN knk k M O O.pv (cF kw R mm ((.own 43 1 (.slice OA ps.length oc) ps.length ((ps).flatMap kJ))::(.Oy J (qM R.fx.length U9 mm.off (.slice OA ps.length oc) (.slice R.sA mm.bG.length R.sc) (.slice R.tA mm.bQ.length R.tc) mm.calls) 35)::(.Oy b1 oZ 35)::(N9++rk)))):=by subst ald;subst jC;exact S9
  clear S9;refine zN 2 ?_;refine vv (v:=pV ab (ao+k*1)) (bF E E E (jF k uf underlying90 kQ Y Y)) ?_;refine vv (v:=pV knk 0) (aA E E (aV (ald▸yF (uf▸G.arr) hk4 yw (PO 10 E λf hf=>aK _ (hLk f hf))))) ?_;refine zN 12 ?_;refine vv (v:=pV J (1+k*1)) (bF E E E (fP k underlying25 kQ E hk4)) ?_;refine Ii (cs:= #[.bool M.up]) (row':=qM R.fx.length (PN U9 k M.up) mm.off (.slice OA ps.length oc) (.slice R.sA mm.bG.length R.sc) (.slice R.tA mm.bQ.length R.tc) mm.calls) (fs':=(_::_::_::_::_::_::_::_::(.Oy J (qM R.fx.length (PN U9 k M.up) mm.off (.slice OA ps.length oc) (.slice R.sA mm.bG.length R.sc) (.slice R.tA mm.bQ.length R.tc) mm.calls) 35)::_::(N9++rk))) 8 yw (wn E) E E E E E E kQ E (dx E) (by show 1+k*1+1<=18;omega) (aBd hk4 (v:=M.up)) E ?_;intro w82 Fv;refine zN 13 ?_
  rcases hup:M.up with _|_
  ·refine zN 4 ?_;refine vv (v:=.bool false) (RQ hup (aA E E (aV (St.cl 0 Fv E E)))) ?_;refine zN 8 ?_;refine vv (aA E E (fu (cs:=[.slice O.tA M.data.length O.tc,D M.OY]) (St.rg 0 Fv E (u6)))) ?_;have hrd:=(hBs.jH k hk4).U5;rw[Z]at hrd;refine dZ eQ (Kw O.tA O.tc M.data M.OY _ (WX.Al.rd Fv (PO 10 E λf hf=>aK _ (hLk f hf))) hrd.1 hrd.2.2.1) ?_;rintro _ w87 ⟨A84,c85,bB,bs,hbm,hbl,hbc,rfl,T86⟩;refine⟨_,E,?_⟩;have Px:=Fv.ext T86 (by simp[Na,OJ.Kz]);have Pw:St B w0 w87 ((oB bB bs)::(.dR 1 A84 ((lH M.data M.OY).1.length) (Jq ((lH M.data M.OY).1)))::(cN knk k M O O.pv (cF kw R mm ((.own 43 1 (.slice OA ps.length oc) ps.length ((ps).flatMap kJ))::(.Oy J (qM R.fx.length (PN U9 k M.up) mm.off (.slice OA ps.length oc) (.slice R.sA mm.bG.length R.sc) (.slice R.tA mm.bQ.length R.tc) mm.calls) 35)::(.Oy b1 oZ 35)::((N9++rk)++gT bs))))):=St.perm Px (Perm.cons _ (Perm.cons _ (AO (l₁:=gT bs))));clear Fv;refine zN 10 ?_;refine bsI Pw ?_;intro b90 w91 BQ;refine eG (news:=[.slice (aD bB 0) 4 4]) (xs':=((ps++[(bB,bs)])).flatMap kJ) 10 BQ (wn E) E E E E E E (St.nP (xs:=[.slice (aD bB 0) 4 4]) 0 BQ E E E) underlying31 ahe E dQ (dx E) lQ Y (jO (enc:=kJ) E E) ?_;intro A93 c94 w95 aP4 aP5 IJ;refine zQ ?_;refine kZ 11 IJ kQ ?_ (hs:=by exact aqp);intro w99 yT;refine zN 4 ?_;refine vv (v:=D ((k+1:Nat):Int)) jW ?_;refine zN 2 ?_;have yV:=yT.bq [2,0];have wh:=yV.fC [0,10,10,10,10,10,10,10,10,10,10];have xX:St B w0 w99 ((.own 43 1 (.slice A93 (ps.length+1) c94) (ps.length+1) (((ps++[(bB,bs)])).flatMap kJ))::(.Oy J (qM R.fx.length (PN U9 k M.up) mm.off (.slice A93 (ps.length+1) c94) (.slice R.sA mm.bG.length R.sc) (.slice R.tA mm.bQ.length R.tc) mm.calls) 35)::(.Oy b1 oZ 35)::(((oB bB bs)::(gT bs++N9))++LF)):=by
    rw[hLF,hLC];exact St.aqr (n:=k) (gs:=[.own 43 1 (.slice A93 (ps.length+1) c94) (ps.length+1) (((ps++[(bB,bs)])).flatMap kJ),.Oy J (qM R.fx.length (PN U9 k M.up) mm.off (.slice A93 (ps.length+1) c94) (.slice R.sA mm.bG.length R.sc) (.slice R.tA mm.bQ.length R.tc) mm.calls) 35,.Oy b1 oZ 35,.own 42 6 (.slice (aD bB 0) 4 4) 4 ((bs).flatMap BX.cells)]) (N:=N9) (mP:=gT bs) (fs:=fs) hk4 (by subst ald;subst jC;rw[Z,hz3];rw[<-Qu]at wh;exact wh)
   have Zb:ps.length+1=(ps++[(bB,bs)]).length:=by simp
   rw[Zb]at xX;refine dL (k+1,PN U9 k M.up,(ps++[(bB,bs)]),A93,c94,(.own 42 6 (.slice (aD bB 0) 4 4) 4 ((bs).flatMap BX.cells)::(gT bs++N9))) ?_ uV (by first|omega|(dsimp only;omega));exact⟨uQ,(by dsimp only;rw[aZ,agi];rfl),(by dsimp only;exact Sg agi (λj p hp=>(alb j p hp).mono (λf hf=>(aP.1 hf).elim (λh=>bM _ (dM _ (aK _ h))) λh=>aK _ h)) (aoE hbm hbc Z hup)),(by dsimp only;exact WZ alc Z),xX⟩
  refine zN 4 ?_;refine vv (v:=.bool true) (RQ hup (aA E E (aV (St.cl 0 Fv E E)))) ?_;refine zN 10 ?_;refine bsI Fv ?_;intro aP6 ax1 OV;refine eG (news:=[.slice (aD O.bb 0) 4 4]) (xs':=((ps++[(O.bb,O.bx)])).flatMap kJ) 8 OV (wn E) E E E E E E (St.nP (xs:=[.slice (aD O.bb 0) 4 4]) 0 OV E E E) underlying31 ahe E dQ (dx E) lQ Y (jO (enc:=kJ) E E) ?_;intro ZG ZH ad8 aLc aLd uz;refine zQ ?_;refine kZ 9 uz kQ ?_ (hs:=by exact aqp);intro aqZ G6;refine zN 4 ?_;refine vv (v:=D ((k+1:Nat):Int)) jW ?_;refine zN 2 ?_;have sS:=G6.bq [0];have Bt:=sS.fC [9,9,9,9,9,9,9,9,9,9];have CJ:St B w0 aqZ ((.own 43 1 (.slice ZG (ps.length+1) ZH) (ps.length+1) (((ps++[(O.bb,O.bx)])).flatMap kJ))::(.Oy J (qM R.fx.length (PN U9 k M.up) mm.off (.slice ZG (ps.length+1) ZH) (.slice R.sA mm.bG.length R.sc) (.slice R.tA mm.bQ.length R.tc) mm.calls) 35)::(.Oy b1 oZ 35)::(N9++LF)):=by
   rw[hLF,hLC];exact St.aqr (n:=k) (gs:=[.own 43 1 (.slice ZG (ps.length+1) ZH) (ps.length+1) (((ps++[(O.bb,O.bx)])).flatMap kJ),.Oy J (qM R.fx.length (PN U9 k M.up) mm.off (.slice ZG (ps.length+1) ZH) (.slice R.sA mm.bG.length R.sc) (.slice R.tA mm.bQ.length R.tc) mm.calls) 35,.Oy b1 oZ 35]) (N:=N9) (mP:=[]) (fs:=fs) hk4 (by subst ald;subst jC;rw[Z,hz3,bI];rw[<-Qu]at Bt;exact Bt)
  have Zb:ps.length+1=(ps++[(O.bb,O.bx)]).length:=by simp
  rw[Zb]at CJ;refine dL (k+1,PN U9 k M.up,(ps++[(O.bb,O.bx)]),ZG,ZH,N9) ?_ uV (by first|omega|(dsimp only;omega));exact⟨uQ,(by dsimp only;rw[aZ,agi];rfl),(by dsimp only;exact Sg agi (λj p hp=>(alb j p hp).mono (λf hf=>hf)) (hLC▸aoD (G.jH k hk4) Z hz3 hup hk4)),(by dsimp only;exact WZ alc Z),CJ⟩
 refine zN 13 ?_;refine stA 2 Jy kQ ?_ (h1:=by exact aqo (fl:=R.fx.length) (U:=U9) (d:=mm.off) (bv:=.slice OA ps.length oc) (sv:=.slice R.sA mm.bG.length R.sc) (tv:=.slice R.tA mm.bQ.length R.tc) (calls:=mm.calls) E E E);intro arG zV;refine zN 5 ?_;have hsf:EB l=0:=ayK;refine⟨λh=>av hsf h,λ_=>?_⟩;have xk:=zV.bq [2,1];have h5:k=5:=Y;rw[hLF]at xk;refine⟨_,[.own 43 1 (.slice OA ps.length oc) ps.length ((ps).flatMap kJ)]++(N9++LC),E,?_,St.aBe (gs:=[.own 43 1 (.slice OA ps.length oc) ps.length ((ps).flatMap kJ)]) (N:=N9) (fs:=fs) (LC:=LC) xk⟩;rw[<-hmm];exact aoF (ps:=ps) G Y (λj hj=>alc j Y) (bM _ (aF.2 E)) (λf hf=>aK _ (aK _ (hLC▸hf))) (λj p hp=>(alb j p hp).mono λf hf=>aK _ hf)
def avs{B:Nat}{w0 w:World}{fs:List OJ}{A:Option Addr}{c:Nat}{l:List Ac}(J:EB l=0)(S:St B w0 w fs)(M:Uk B w0)(I:Ro fs 11 A l.length (l.flatMap Ac.cells))(O:l.length*88<=reachBytes):
 Calls prog 16 #[.slice A l.length c] w (λe w'=> ∃row L,e=.returned (.tuple #[.agg row,D 0])/\Z5 L (lT.run l) row/\St B w0 w' (L++fs)):=(agh S M I O).mono λ_ _ h=>h.2 J
structure OX where
 fl:Nat
 U:Nat->Bool
 d:TW
 BA:Option Addr
 bc:Nat
 sA:Option Addr
 sn:Nat
 sc:Nat
 tA:Option Addr
 tn:Nat
 tc:Nat
 calls:Nat
def OX.cells(x:OX):List Value:=Jh x.fl x.U x.d (.slice x.BA 5 x.bc) (.slice x.sA x.sn x.sc) (.slice x.tA x.tn x.tc) x.calls
abbrev oY (x:OX)(s:Value):Array Value:= #[D (x.fl:Int),.bool (x.U 0),.bool (x.U 1),.bool (x.U 2),.bool (x.U 3),.bool (x.U 4),D x.d.p0.node,D x.d.p0.ME,D x.d.p1.node,D x.d.p1.ME,D x.d.p2.node,D x.d.p2.ME,D x.d.p3.node,D x.d.p3.ME,.slice x.BA 5 x.bc,s,.slice x.tA x.tn x.tc,D (x.calls:Int)]
abbrev oX (x:OX):Array Value:=oY x (.slice x.sA x.sn x.sc)
structure Z7 (L:List OJ)(m:Cl)(x:OX):Prop where
 up:∀j,j<5->x.U j=(m.aj j).up
 d:x.d=m.off
 fl:x.fl=m.OM.length
 sn:x.sn=m.bG.length
 tn:x.tn=m.bQ.length
 calls:x.calls=m.calls
 ps:∃ps:List (Nat×List BX),ps.length=5/\Ro L 1 x.BA 5 (ps.flatMap kJ)/\ ∀j p,ps[j]? =some p->P1 L m j p
 bG:Ro L 14 x.sA x.sn (m.bG.flatMap l9.cells)
 bQ:Ro L 7 x.tA x.tn (m.bQ.flatMap tZ.cells)
def Z5.x{L:List OJ}{m:Cl}{row:Array Value}(h:Z5 L m row):∃x:OX,row=x.cells.toArray/\Z7 L m x:=by
 obtain⟨U,BA,bc,sA,sc,tA,tc,ps,rfl,I,J,M,hs,O,Z⟩:=h;exact⟨⟨m.OM.length,U,m.off,BA,bc,sA,m.bG.length,sc,tA,m.bQ.length,tc,m.calls⟩,E,I,E,E,E,E,E,⟨ps,J,M,Z⟩,hs,O⟩
def Z7.mono{L L':List OJ}{m:Cl}{x:OX}(h:Z7 L m x)(I:∀f∈L,f∈L'):Z7 L' m x:=by
 obtain⟨h1,O,Z,h4,h5,h6,⟨ps,h7,h8,h9⟩,J,M⟩:=h;exact⟨h1,O,Z,h4,h5,h6,⟨ps,h7,h8.mono I,λj p hj=>(h9 j p hj).mono I⟩,J.mono I,M.mono I⟩
def ac3(B:Nat)(w0:World)(fs:List OJ)(l:List Ac)(e:Ending)(w':World):Prop:= ∃x L,e=.returned (.tuple #[.agg (OX.cells x).toArray,.bool true])/\Z7 L (lT.run l) x/\St B w0 w' (L++fs)
def aoG{α:Type}{l:List α}(h:l.length=5):∃a b c d e,l=[a,b,c,d,e]:=by
 match l,h with
 |[a,b,c,d,e],_=>exact⟨a,b,c,d,e,E⟩
def agj{B:Nat}{w0 w:World}{fs:List OJ}{A:Option Addr}{c:Nat}{l:List Ac}(h0:EB l=0)(S:St B w0 w fs)(hu:Uk B w0)(J:Ro fs 11 A l.length (l.flatMap Ac.cells))(hb:l.length*88<=reachBytes):
 Calls prog 8 #[.slice A l.length c] w (ac3 B w0 fs l):=by
 refine jc 28 func8 ?_;refine cw [0] ?_;refine zN 2 ?_;refine iU S akC ?_;intro b1 w2 S3;refine zN 6 ?_;refine dZ eQ (avs h0 S3 hu (J.mono (PO 1 E fG)) hb) ?_;rintro _ w4 ⟨aP7,L8,rfl,hO9,S5⟩;refine⟨_,E,?_⟩;obtain⟨x,rfl,hX⟩:=Z5.x hO9;obtain⟨ps,hpl,M,hP⟩:=hX.ps;obtain⟨p0,p1,p2,p3,p4,rfl⟩:=aoG hpl;have S6:=S5.perm (perm_middle (a:=.Oy b1 oZ 35) (l₁:=L8) (l₂:=fs));have O:∀f∈L8,f∈L8++fs:=λf h=>bM _ h;obtain⟨bA,oA,Z⟩:=DU M S6 (PO 1 E O) dQ;refine zN 3 ?_;refine iU S6 akC ?_;intro b10 L6 sI;refine stA 0 sI kQ ?_;intro Fy pz;refine zN 4 ?_;have I:=pz.drew;refine aU 19 I [1] ?_;refine aW 12 ?_;refine qW (v:=.pointer (some ⟨bA,oA+0*1,none⟩)) (i:=12) (n:=6) E kQ kQ kQ (St.del 1 I) E (wg E E E E) E E (λ_ _=>(bF E E E (jF 0 Z underlying31 kQ dQ dQ))) ?_;refine qW (v:=.slice (some ⟨p0.1,0,none⟩) 4 4) (i:=13) (n:=5) E kQ kQ kQ (St.del 1 I) E (wg E E E E) E E (λ_ afQ=>(aA E E (aV (p9 M Z afQ (PO 1 E O) E)))) ?_;refine aW 3 ?_;refine bJ 17 ?_;refine YL 17 E 1 I kQ ?_;intro w33 uy;refine aW 3 ?_;refine zN 3 ?_;have vU:=uy.bq [1,0];exact⟨x,L8,E,hX,vU⟩
section
variable {Q Q2 Q3 y:Qd}{l:List l9}{i j k:Nat}{a b:l9}{e:Ev}
def OW(Q Q':Qd):Prop:=Q.ep<Q'.ep\/Q.ep=Q'.ep/\Q.gv<=Q'.gv
def OW.refl:OW Q Q:=.inr ⟨E,jg _⟩
def OW.trans(h:OW Q Q2)(I:OW Q2 Q3):OW Q Q3:=by unfold OW at*;omega
def akk:OW Q (Qh Q e).1/\(Qh Q e).1.ep<=Q.ep+1:=by
 have same:∀ {Q':Qd},Q'.ep=Q.ep->Q.gv<=Q'.gv->OW Q Q'/\Q'.ep<=Q.ep+1:=λh1 I=>⟨.inr ⟨h1.symm,I⟩,by omega⟩;have h:=same (Q':=Q) E (jg _);unfold Qh
 split
 ·unfold Ec
  split; · exact h
  split; · exact h
  split; · exact h
  exact same E (jg _)
 split
 ·unfold Jv
  split; · exact h
  split; · exact h
  exact same E uQ
 split
 ·unfold GU
  split; · exact h
  split; · exact h
  exact same E (jg _)
 unfold GV
 split; · exact h
 exact⟨.inl uQ,jg _⟩
end
section
variable {m w m':Cl}{n q B k:Nat}{l:bO}{G G':Nat->Gh}{g g':Gh}{b b':bC}{rs us:List dN}{V:Nat->bC}{P:Nat->Option dh}{U:Nat->Bool}{Lt:bO->Prop}{pl:Pl}{sh:Nat->Int×Int}{sv:List l9}{p:dh}{F F':Wy}{v v':Nat->bC}{d:Int}{f f':Nat->Nat}
def ac4:∀ {k:Nat} {l:List Ev},l.length=k->Ua l->(aM l).1.ep<=k
 | 0,l,I,h=>by
  rw[pW.1 I];rw[AQ (l:=[]) iQ (show jo gu [] []=some (gu,[])from E)];exact jg _
 |k+1,l,I,h=>by
  have J:l=l.take k++[l[k]]:=by rw[<-uF Y,<-I,jM]
  have M:Ua (l.take k++[l[k]]):=J▸h;obtain⟨h1,_,O⟩:=UF M;have ih:=ac4 (k:=k) (l:=l.take k) (by rw[eD];omega) (xC h);obtain⟨_,_,Z⟩:=aom h1;rw[J,O,Z];have:=(akk (Q:=(aM (l.take k)).1) (e:=l[k])).2
  show(Qh (aM (l.take k)).1 l[k]).1.ep<=((k+1:Nat):Int)
  omega
def akl{l:List Ev}(h:Ua l)(J:l.length<2000):Ua (l++[bg]):=by
 have M:=acG E h;have he:=ac4 E h;have I:jU (aM l).1 bg=_:=BO M dQ;have hs:Qh (aM l).1 bg=GV (aM l).1:=rfl;have O:(Qh (aM l).1 bg).2.2=true:=by
  rw[hs];unfold GV;rw[ah Y]
 exact Rh h J (by rw[I]) (by rw[I];exact O)
def FJ{q:Nat}{Jp:List Ev}{an:List kE}:∀(il:List Nat) (w:Cl),(w.recovered n q Jp an il).aj=w.aj
 |[],_=>rfl
 |i::r,w=>(FJ r (w.Ug n q (Jp.getD i aQ) (an.getD i iX) (-1))).trans E
def Ky(w:Cl)(q:Nat):(w.recover n q).aj=w.aj:=by
 unfold Cl.recover
 split
 ·rfl
 exact FJ _ _
def TU.aie(I:TU g V P U Lt pl sh sv):∀k,k+1<g.m->k<=g.len (k+1)
 | 0,_=>aG _
 |k+1,h=>by
  have J:=TU.aie I k Y;have:=(I.brk (k+1) Y Y).2;unfold Gh.bd at this;rw[ah Y]at this;omega
def TU.VE(I:TU g V P U Lt pl sh sv):g.m<=g.G.length+1:=by
 by_cases c:g.m<=1
 ·omega
 have h1:=I.aie (g.m-2) Y;have h:=I.Pd (k:=g.m-2+1) Y Y;omega
def agk(o:Option dh):vC o<=Y5 o:=by
 cases o with
 |none=>exact aG _
 |some p=>cases p<;>simp[vC,Y5]
def aBf:m.c0<=m.cw:=by
 have h:∀a:List bO,eB bV a<=qL a:=by
  intro a
  induction a with
  |nil=>exact aG _
  |cons l r I=>
   have:bV l<=I5 l:=by
    unfold bV I5
    split
    ·rename_i h;rw[au (.inl h)];exact aB
    exact aG _
   rw[eB,qL];omega
 have J:=h m.OM;have M:=h (m.aj 0).Mv;have O:=h (m.aj 1).Mv;have Z:=h (m.aj 2).Mv;have i3:=h (m.aj 3).Mv;have i4:=h (m.aj 4).Mv;have s0:=agk (m.aj 0).OO;have s1:=agk (m.aj 1).OO;have s2:=agk (m.aj 2).OO;have s3:=agk (m.aj 3).OO;have s4:=agk (m.aj 4).OO;unfold Cl.c0 Cl.ws Cl.cw tX;omega
def aBg{F:Wy}(h:0<=b.ep)(I:F.R<=1):fi F n b<=46*(F.M+2)+92+13892:=by
 have h1:RP b.F9<=2:=by unfold RP;split;omega;split<;>omega
 have J:WS F n b<=13892:=by unfold WS;split<;>omega
 unfold fi;omega
def aqt:(Ap m q g).R<=1:=by unfold Ap;dsimp only;split<;>omega
def aBh(g:Gr)(cr:Bool):(iG g cr).qu<2:=by
 have p2:=pX (n:=g.b) (m:=2) dQ;unfold iG
 split
 ·unfold Pg;dsimp only;omega
 repeat' split
 all_goals first|omega|(dsimp only;omega)
def o5(f:Nat->Nat):Nat:=f 0+(f 1+(f 2+(f 3+f 4)))
def pI(F:Wy)(v:Nat->bC)(n:Nat):Nat:=if n≠F.own F.M/\(v n).F9=3 then 1 else 0
def tgl(F:Wy)(b:bC):Nat:=if b.ep=F.M+1 then b.Jp.length+1 else 0
def Zg(F:Wy)(bo bt:bC):Nat:=if F.R=1 then bo.Jp.length+2-tgl F bt+(if bo.F9=2 then 1 else 0)+2 else 0
def Om(F:Wy)(d:Int):Nat:=if d=F.M then 0 else 1
def qQ(F:Wy)(d:Int)(v:Nat->bC):Nat:=Zg F (v (F.own F.M)) (v F.tg.toNat)+Om F d+o5 (pI F v)
def fT(F:Nat->Wy)(l:bO):Nat:=if (l.kd=2\/l.kd=4)/\ ¬calm (F l.q) l then 1 else 0
def sK:Option dh->Nat
 |none=>0
 |some _=>1
def vq(m:Cl)(q:Nat)(j:Nat):bC:=qw (m.aj j) q
noncomputable def PP(m:Cl)(F:Nat->Wy):Nat:=2*m.ws bV+(qQ (F 0) (m.off.at 0).ME (vq m 0)+qQ (F 1) (m.off.at 1).ME (vq m 1))
noncomputable def ZZ(m:Cl)(F:Nat->Wy):Nat:=8*PP m F+2*m.ws (fT F)+o5 λj=>sK (m.aj j).OO
def agV{a:Nat}(hn:n<5)(h:∀j,j≠n->f' j=f j)(I:f' n+a<=f n):o5 f'+a<=o5 f:=by
 unfold o5
 rcases five hn with rfl|rfl|rfl|rfl|rfl
 ·rw[h 1 dQ,h 2 dQ,h 3 dQ,h 4 dQ];omega
 ·rw[h 0 dQ,h 2 dQ,h 3 dQ,h 4 dQ];omega
 ·rw[h 0 dQ,h 1 dQ,h 3 dQ,h 4 dQ];omega
 ·rw[h 0 dQ,h 1 dQ,h 2 dQ,h 4 dQ];omega
 rw[h 0 dQ,h 1 dQ,h 2 dQ,h 3 dQ];omega
def Ce(h:∀j,j<5->f' j=f j):o5 f'=o5 f:=by
 unfold o5;rw[h 0 dQ,h 1 dQ,h 2 dQ,h 3 dQ,h 4 dQ]
def U8{a:Nat}(hn:n<5)(h:∀j,j≠n->f' j<=f j)(I:f' n<=f n+a):o5 f'<=o5 f+a:=by
 unfold o5;have k:∀j,j≠n->f' j<=f j:=h
 rcases five hn with rfl|rfl|rfl|rfl|rfl
 ·have:=h 1 dQ;have:=h 2 dQ;have:=h 3 dQ;have:=h 4 dQ;omega
 ·have:=h 0 dQ;have:=h 2 dQ;have:=h 3 dQ;have:=h 4 dQ;omega
 ·have:=h 0 dQ;have:=h 1 dQ;have:=h 3 dQ;have:=h 4 dQ;omega
 ·have:=h 0 dQ;have:=h 1 dQ;have:=h 2 dQ;have:=h 4 dQ;omega
 have:=h 0 dQ;have:=h 1 dQ;have:=h 2 dQ;have:=h 3 dQ;omega
def aoH:pI F v n<=1:=by unfold pI;split<;>omega
def akm(h:∀j,(v' j).F9=(v j).F9/\(v' j).ep=(v j).ep/\(v' j).Jp=(v j).Jp):qQ F d v'=qQ F d v:=by
 have h1:o5 (pI F v')=o5 (pI F v):=Ce λj _=>by unfold pI;rw[(h j).1]
 unfold qQ Zg tgl;rw[h1,(h _).1,(h (F.own F.M)).2.2,(h F.tg.toNat).2.1,(h F.tg.toNat).2.2]
def nu.pq(ho:F.own F.M<5)(h:nu F F'):qQ F' d v<=qQ F d v:=by
 rcases h with⟨h1,J,O,I⟩|⟨h1,J,O,I,h5⟩
 ·have e:F'.own F'.M=F.own F.M:=by rw[h1];exact J _ aB
  have Z:o5 (pI F' v)=o5 (pI F v):=Ce λj _=>by unfold pI;rw[e]
  unfold qQ Zg Om tgl;rw[Z,e,h1,O,I];exact aB
 have Z:o5 (pI F' v)<=o5 (pI F v)+1:=by
  refine U8 ho (λj hj=>?_) (gB aoH (le_add_left _ _));unfold pI
  split
  ·rename_i c
   rw[au ⟨hj,c.2⟩];exact aB
  exact aG _
 unfold qQ Zg Om;rw[ah (by omega:¬F'.R=1),au I]
 split<;>omega
def DV{F:Nat->Wy}{x:bO}(h:x.kd≠2/\x.kd≠4\/calm (F x.q) x):fT F x=0:=by
 unfold fT;rw[ah]
 rcases h with h|h
 ·omega
 exact λc=>c.2 h
def Va{F:Nat->Wy}(x:bO)(h:x.kd=6):fT F x=0:=DV (.inl Y)
def nu.sl{F F':Nat->Wy}(h:nu (F l.q) (F' l.q)):fT F' l<=fT F l:=by
 unfold fT
 split
 ·rename_i c
  rw[au ⟨c.1,λk=>c.2 (h.clm k)⟩];exact aB
 exact aG _
def aoI{V:Nat->bC}{P:Nat->Option dh}{U:Nat->Bool}{Lt:bO->Prop}{pl:Pl}{sh:Nat->Int×Int}{sv:List l9}{bs:Nat->bC}{FF:Nat->Wy}(I:TU g V P U Lt pl sh sv)(hn:n<5)(hV:V n=bs l.q)(hpq:p.q=l.q)(hp:p.ok bs)(hS:Src (bs l.q) l p)(hk:Gq g V n p)
  (Bd:l.tg=n) (hM:(FF l.q).M=g.m) (ho:(FF l.q).own=g.own) (hR:(FF l.q).R=1↔(V g.o).F9≠1) (hT:(FF l.q).tg=(V g.o).tg) (hgr:∀q x last,p=.T9 q x last->(bs l.q).Jp.length<x.Jp.length) (hv:v n=bs l.q) (hvo:g.G.length<=(v g.o).Jp.length):
  qQ (FF l.q) d (PN v n (p.b bs))+1<=qQ (FF l.q) d v+2*bV l+fT FF l:=by
 have eo:(FF l.q).own (FF l.q).M=g.o:=by rw[hM,ho];rfl
 have o5':=I.o5;have htn:(FF l.q).R=1->(FF l.q).tg.toNat≠g.o:=λh=>by
  obtain⟨_,h1,h2,h3⟩:=I.UJ (hR.1 h);rw[<-hT]at h1 h2;omega
 have O:∀j,j≠n->PN v n (p.b bs) j=v j:=λj hj=>Ox hj;have auth:∀ {a c:Nat},n=g.o->(p.b bs).Jp.length<=(bs l.q).Jp.length+a->(if (p.b bs).F9=2 then 1 else 0)+c<=(if (bs l.q).F9=2 then 1 else 0)->(c=0\/(FF l.q).R=1)->qQ (FF l.q) d (PN v n (p.b bs))+c<=qQ (FF l.q) d v+a:=λ{a c} PX h h3 hc=>by
  have e1:o5 (pI (FF l.q) (PN v n (p.b bs)))=o5 (pI (FF l.q) v):=Ce λj _=>by
   unfold pI;by_cases e:j=n
   ·rw[eo,e,PX,ah (λc=>c.1 E),ah (λc=>c.1 E)]
   rw[O j e]
  have e2:PN v n (p.b bs) g.o=p.b bs:=by rw[<-PX];exact Jo _ _ _
  have e3:v g.o=bs l.q:=by rw[<-PX];exact hv
  unfold qQ Zg;rw[e1,eo,e2,e3];by_cases J:(FF l.q).R=1
  ·rw[au J,au J,O _ (by rw[PX];exact htn J)];omega
  rw[ah J,ah J]
  rcases hc with hc|hc
  ·omega
  exact av hc J
 have Z:∀ {a c:Nat},n≠g.o->(if (p.b bs).F9=3 then 1 else 0)+a<=(if (bs l.q).F9=3 then 1 else 0)->
   ((FF l.q).R=1->(FF l.q).tg.toNat=n->(v g.o).Jp.length+2-tgl (FF l.q) (p.b bs)+c<=(v g.o).Jp.length+2-tgl (FF l.q) (bs l.q))->(c=0\/((FF l.q).R=1/\(FF l.q).tg.toNat=n))->qQ (FF l.q) d (PN v n (p.b bs))+(a+c)<=qQ (FF l.q) d v:=λ{a c} PX h h1 hc=>by
  have e1:o5 (pI (FF l.q) (PN v n (p.b bs)))+a<=o5 (pI (FF l.q) v):=by
   refine agV hn (λj hj=>by unfold pI;rw[O j hj]) ?_;unfold pI;rw[eo,Jo,hv];have:∀b:bC,(if n≠g.o/\b.F9=3 then 1 else 0)=if b.F9=3 then 1 else 0:=λb=>by
    by_cases e:b.F9=3
    ·rw[au ⟨PX,e⟩,au e]
    rw[ah (λc=>e c.2),ah e]
   rw[this,this];exact h
  have e2:PN v n (p.b bs) g.o=v g.o:=O _ (λe=>PX e.symm);unfold qQ Zg;rw[eo,e2];by_cases J:(FF l.q).R=1
  ·rw[au J,au J];by_cases ht:(FF l.q).tg.toNat=n
   ·have:=h1 J ht;rw[ht,Jo,hv];omega
   rw[O _ ht]
   rcases hc with hc|⟨_,hc⟩
   ·omega
   exact av hc ht
  rw[ah J,ah J]
  rcases hc with hc|⟨hc,_⟩
  ·omega
  exact av hc J
 have cl1:¬calm (FF l.q) l->(l.kd=2\/l.kd=4)->fT FF l=1:=λh h2=>au ⟨h2,h⟩;have r3:∀ {r:Int},r≠3->(if r=3 then 1 else 0:Nat)=0:=λh=>ah h
 cases p with
 |serve k Jp op num a=>
  have e:k=l.q:=hpq;subst e;obtain⟨s1,_⟩:=hS;obtain⟨h1,h2,_⟩:=hp;have hc:bV l=1:=au s1;have:=auth (a:=1) (c:=0) hk.1 (by
   show Jp.length<=_
   rw[h2,aZ,l8];exact aB) aB (.inl E)
  omega
 |P8 k x=>
  have e:k=l.q:=hpq;subst e;obtain⟨s1,s2⟩:=hS;obtain⟨j,j1,j2,j3,j4,j5⟩:=hk;have PX:=I.rW j4;rw[hV]at j4 j5;have hle:l.ep=(j:Int)+1:=by have:=bP bC.ep (s2.symm.trans j1);exact this
  have hx:(dh.P8 l.q x).b bs=x:=rfl;have hxr:x.F9=4:=by rw[j1]
  have hxe:x.ep=(j:Int)+1:=by rw[j1]
  have hxv:x.Jp.length=0:=by rw[j1];rfl
  have t0:tgl (FF l.q) (bs l.q)=0:=ah (by rw[hM];omega);by_cases c:calm (FF l.q) l
  ·rcases c with⟨c1,c2,c3⟩|⟨c1,c2,c3⟩
   ·exfalso
    rw[hM]at c2;rw[ho,Bd]at c3;have:=I.ge (j+1) Y Y;rw[show l.ep.toNat=j+1 by omega]at c3;rw[show g.own (j+1)=n by omega,hV]at this;omega
   have:=Z (a:=0) (c:=1) PX (by rw[hx,r3 (r:=x.F9) Y,r3 Y];exact aB) (λ_ _=>by
    rw[t0,hx];unfold tgl;rw[au Y,hxv];omega) (.inr ⟨c2,by omega⟩)
   omega
  have h1:=cl1 c (.inl s1);have:=Z (a:=0) (c:=0) PX (by rw[hx,r3 (r:=x.F9) Y,r3 Y];exact aB) (λ_ _=>by rw[t0];omega) (.inl E);omega
 |T9 k x last=>
  have e:k=l.q:=hpq;subst e;have hgrow:=hgr _ _ _ E;obtain⟨es,g1,g2,g3,g4,g5,g6,g7⟩:=xG hp;obtain⟨s1,s2,s3,s4,s5,s6,s7,s8,s9⟩:=hS;obtain⟨k1,k2,k3⟩:=hk;have PX:n≠g.o:=I.rW (.inr k1);rw[hV]at k1;have hx:(dh.T9 l.q x last).b bs=x:=rfl;have hxr:x.F9=4\/x.F9=1:=by
   cases last with
   |true=>obtain⟨_,_,_,a4,_⟩:=k3 E;rw[a4];exact .inr E
   |false=>obtain⟨j,a1,_⟩:=k2 E;rw[a1];exact .inl (by show(V n).F9=4;rw[hV];exact k1)
  have hbl:(bs l.q).Jp.length<=g.G.length:=by
   rcases I.oM n hn PX with⟨h5,_⟩|⟨_,h5,_⟩|⟨k',_,h2,h3,h4,_,_,h7,_⟩
   ·rw[hV]at h5;omega
   ·rw[hV]at h5;omega
   rw[hV]at h7;exact gB h7 (I.ZA h3 h4)
  by_cases c:calm (FF l.q) l
  ·rcases c with⟨c1,c2,c3⟩|⟨c1,c2,c3⟩
   ·exfalso
    rw[hM]at c2;rw[ho,Bd]at c3
    rcases I.oM n hn PX with⟨h5,_⟩|⟨_,h5,_⟩|⟨k',_,h2,h3,h4,_,_,_,h8⟩
    ·rw[hV]at h5;omega
    ·rw[hV]at h5;omega
    rw[hV]at h2;rw[show l.ep.toNat=k'+1 by omega]at c3;exact h8 Y Y
   have:=Z (a:=0) (c:=1) PX (by rw[hx,r3 (r:=x.F9) Y,r3 (r:=(bs l.q).F9) Y];exact aB) (λ_ _=>by
    rw[hx];unfold tgl;rw[au Y,au Y];omega) (.inr ⟨c2,by omega⟩)
   omega
  have h1:=cl1 c (.inr s1);have:=Z (a:=0) (c:=0) PX (by rw[hx,r3 (r:=x.F9) Y,r3 (r:=(bs l.q).F9) Y];exact aB) (λJ htn=>by
   have hne:¬(bs l.q).ep=((FF l.q).M:Int)+1:=λe=>c (.inr ⟨by omega,J,by
    obtain⟨_,_,h2,_⟩:=I.UJ (hR.1 J);rw[<-hT]at h2;omega⟩)
   rw[hx];unfold tgl;rw[ah hne,ah Y];omega) (.inl E)
  omega
 |gy k x a=>
  have e:k=l.q:=hpq;subst e;obtain⟨h1,h2⟩:=hp;obtain⟨k1,k2,k3⟩:=hk;have hb:(dh.gy l.q x a).b bs=x:=rfl;have:=auth (a:=0) (c:=1) k1 (by rw[hb,h2];exact aB) (by rw[hb,h2,h1];exact aB) (.inr (hR.2 (by rw[<-k1,k2];decide)));omega
 |P5 k x=>
  have e:k=l.q:=hpq;subst e;obtain⟨h1,h2⟩:=hp;obtain⟨k1,k2,k3⟩:=hk;have PX:n≠g.o:=λe=>by have:=I.vV;rw[<-e]at this;omega
  rw[hV]at k3;have hb:(dh.P5 l.q x).b bs=x:=rfl;have:=Z (a:=1) (c:=0) PX (by rw[hb,h2,h1];exact aB) (λ_ _=>by
   rw[hb,h2];unfold tgl;dsimp only;rw[ah Y,ah Y];omega) (.inl E)
  omega
end
section
variable {m w m':Cl}{n q B:Nat}{l:bO}{p:dh}{G G':Nat->Gh}{g g':Gh}{b b':bC}{rs us:List dN}{V:Nat->bC}{P:Nat->Option dh}{U:Nat->Bool}{Lt:bO->Prop}{pl:Pl}{sh:Nat->Int×Int}{sv:List l9}{F F':Nat->Wy}
def aoJ(H:Hnd m n l m'):m'.off=m.off:=by
 cases H with
 |done a h1 h=>unfold Cl.done;split<;>rfl
 |part b h1 h I J M O=>unfold Cl.part;split<;>rfl
 |_=>rfl
def Nh(H:Hnd m n l m'):∃new,m'.OM=m.OM++new/\ ∀x∈new,x.kd≠2:=by
 have one:∀ {x:bO},x.kd≠2-> ∀y∈[x],y.kd≠2:=λh y J=>by rw[aF]at J;subst J;exact h
 cases H with
 |same=>exact⟨[],by simp,λx I=>by cases I⟩
 |done a h1 M=>
  unfold Cl.done
  split
  ·exact⟨_,E,one (by show(1:Int)≠2;decide)⟩
  exact⟨_,E,one (by show(1:Int)≠2;decide)⟩
 |TV h1=>exact⟨_,E,one (by show(3:Int)≠2;decide)⟩
 |part b h1 M O Z h5 h6=>
  unfold Cl.part
  split
  ·exact⟨[],by simp;rfl,λx I=>by cases I⟩
  exact⟨_,E,one (by show(4:Int)≠2;decide)⟩
 |OO p cO d h1 M O Z h5=>exact⟨[],by simp;rfl,λx I=>by cases I⟩
 |Qf h1=>exact⟨[],by simp;rfl,λx I=>by cases I⟩
def avu{x:bC}{last:Bool}(J:l.kd=4)(I:(m.aj n).OO=none)(h:((m.PY n l).aj n).OO=some (.T9 q x last)):x.Jp.length≠((m.aj n).bs l.q).Jp.length:=by
 rw[show m.PY n l=m.T9 n l by unfold Cl.PY;rw[ah Y,ah Y,ah Y,au J]]at h;unfold Cl.T9 at h
 split at h
 ·rw[I]at h;cases h
 split at h
 ·rw[show((m.TV n l.q).aj n).OO=none from I]at h;cases h
 split at h
 ·rw[I]at h;cases h
 rename_i c
 split at h
 ·rw[I]at h;cases h
 rw[aY]at h;simp only[Option.some.injEq,dh.T9.injEq]at h;rw[<-h.2.1];exact λe=>c (.inr e)
def Mx(h:m'.aj n=m.aj n):vq m' q n=vq m q n:=by unfold vq;rw[h]
def avv(R:Rmc m G B (tJ (FF m G) l) (bV l))(hn:n<5)(hU:pG (m.aj n) rs [])(hp:(m.aj n).OO=none)(hL:∀q,q<2->l.q=q->ER (G q) (vw m q) (m.off.at q) l)(Bd:l.tg=n)(O:l.q<2)
  (mP:CF m m' n) (H:Hnd m n l m') (aHY:∀q x last,l.kd=4->(m'.aj n).OO=some (.T9 q x last)->x.Jp.length≠((m.aj n).bs l.q).Jp.length):
  m'.ws (fT (FF m G))<=m.ws (fT (FF m G))/\(((m'.aj n).OO=none/\PP m' (FF m G)<=PP m (FF m G)/\ZZ m' (FF m G)<=ZZ m (FF m G))\/
   ((m'.aj n).OO≠none/\PP m' (FF m G)+1<=PP m (FF m G)+2*bV l+fT (FF m G) l/\ZZ m' (FF m G)+7<=ZZ m (FF m G)+16*bV l+8*fT (FF m G) l)):=by
 have hu:=R.up n hn;obtain⟨hbs,V5⟩:=Y9 hu hp H;obtain⟨new,hf,hnew⟩:=LG hu H;obtain⟨new2,hf2,hnew2⟩:=Nh H;have en:new2=new:=ac6 (hf2.symm.trans hf);subst en;have hs0:∀x∈new2,fT (FF m G) x=0:=λx hx=>by
  obtain⟨h1,M⟩:=hnew x hx;by_cases h4:x.kd=4
  ·obtain⟨h5,h6,h7,h8⟩:=M h4;refine DV (.inr ?_);rw[h5];have hV:=iC (q:=l.q) hu;exact xH (R.qi _ O) hn (by rw[hV];exact h6) (by rw[hV];exact h7) (by rw[hV];exact h8)
  exact DV (.inl ⟨hnew2 x hx,h4⟩)
 have hst:m'.ws (fT (FF m G))<=m.ws (fT (FF m G)):=qP hn mP.oM mP.jk hf2 hs0;have hcl:m'.ws bV<=m.ws bV:=qP hn mP.oM mP.jk hf2 λx hx=>vD (hnew x hx).1;have hoff:m'.off=m.off:=aoJ H;refine⟨hst,?_⟩;have hpn:∀ {a:Nat},sK (m'.aj n).OO<=a->(o5 λj=>sK (m'.aj j).OO)<=(o5 λj=>sK (m.aj j).OO)+a:=λ{a} h=>
  U8 hn (λj hj=>by rw[mP.oM j hj];exact aB) Y
 have J:∀q,((m'.aj n).OO=none\/ ∃p,(m'.aj n).OO=some p/\p.q≠q)-> ∀d,qQ (FF m G q) d (vq m' q)=qQ (FF m G q) d (vq m q):=λq h d=>akm λj=>by
  by_cases e:j=n
  ·subst e;unfold vq;rw[jV hp];have e:qw (m'.aj j) q=(m'.aj j).bs q:=by
    rcases h with h|⟨p,h,M⟩
    ·exact jV h
    exact Aq h M
   rw[e];exact⟨(hbs q).1,(hbs q).2.2.1,(hbs q).2.2.2⟩
  rw[Mx (mP.oM j e)];exact⟨E,E,E⟩
 rcases V5 with⟨h1,M⟩|⟨p,h1,M,h3,h4,h5,h6⟩
 ·left
  have hP:PP m' (FF m G)<=PP m (FF m G):=by
   unfold PP;rw[J 0 (.inl h1),J 1 (.inl h1),hoff];omega
  refine⟨h1,hP,?_⟩;have:=hpn (a:=0) (by rw[h1];exact aB);unfold ZZ;omega
 right
 have hV:=iC (q:=l.q) hu;have hff:=(jL hU.tape hU.mG h3 (by rw[M];omega)).2;have afD:=Y4 (R.qi _ O) hn hV E (hL _ O E) Bd M E h3 h5 hff;have I:=R.qi _ O;have hRR:(FF m G l.q).R=1↔(vw m l.q (G l.q).o).F9≠1:=by
  show(if (vw m l.q (G l.q).o).F9=1 then 0 else 1)=1↔_
  split
  ·rename_i c;exact⟨λh=>by omega,λh=>av c h⟩
  rename_i c;exact⟨λ_=>c,λ_=>E⟩
 have hvo:(G l.q).G.length<=(vq m l.q (G l.q).o).Jp.length:=by
  have Z:=I.o5;rw[<-I.yN];unfold vq
  cases hpo:(m.aj (G l.q).o).OO with
  |none=>rw[jV hpo,iC (R.up _ Z)];exact aB
  |some p2=>
   by_cases e:p2.q=l.q
   ·rw[q8 hpo e];have hpv:Cc m l.q (G l.q).o=some p2:=by unfold Cc;rw[hpo];exact Pj e
    obtain⟨_,hk⟩:=I.nQ _ Z p2 hpv;have ae:=iC (q:=l.q) (R.up _ Z);have yN:=I.yN;have ES:=I.ES
    cases p2 with
    |serve k Jp op num a=>obtain⟨_,_,k3,_⟩:=hk;show _<=Jp.length;rw[k3,yN,aZ];omega
    |P8 k x=>obtain⟨_,_,_,_,k4,_⟩:=hk;omega
    |T9 k x last=>have:=hk.1;omega
    |gy k x a=>obtain⟨_,_,k3⟩:=hk;show _<=x.Jp.length;rw[k3];exact aB
    |P5 k x=>obtain⟨_,_,k3⟩:=hk;have:=I.vV;omega
   rw[Aq hpo e,iC (R.up _ Z)];exact aB
 have hpp:=aoI (FF:=FF m G) (d:=(m.off.at l.q).ME) (v:=vq m l.q) I hn hV M h3 h5 afD Bd E E hRR E (λq x last e=>by
  subst e;have hk4:l.kd=4:=h5.1;have hne:=aHY q x last hk4 h1;obtain⟨es,g1,g2,g3,g4,g5,g6,g7⟩:=xG h3;have e:q=l.q:=M;subst e
  cases last with
  |true=>simp only[if_true,length_singleton]at*;omega
  |false=>simp only[Bool.false_eq_true,if_false,length_nil]at*;omega) (by unfold vq;exact jV hp) hvo
 have e1:∀d,qQ (FF m G l.q) d (vq m' l.q)=qQ (FF m G l.q) d (PN (vq m l.q) n (p.b (m.aj n).bs)):=λd=>by
  congr 1
  funext j
  by_cases e:j=n
  ·subst e;rw[Jo];unfold vq;rw[q8 h1 M,h4]
  rw[Ox e];exact Mx (mP.oM j e)
 have hP:PP m' (FF m G)+1<=PP m (FF m G)+2*bV l+fT (FF m G) l:=by
  have h01:l.q=0\/l.q=1:=by omega
  unfold PP;rw[hoff]
  rcases h01 with e|e
  ·rw[e]at hpp e1;have:=J 1 (.inr ⟨p,h1,by rw[M,e];decide⟩) (m.off.at 1).ME;rw[this,e1];omega
  rw[e]at hpp e1;have:=J 0 (.inr ⟨p,h1,by rw[M,e];decide⟩) (m.off.at 0).ME;rw[this,e1];omega
 refine⟨by rw[h1];simp,hP,?_⟩;have:=hpn (a:=1) (by rw[h1];exact aB);unfold ZZ;omega
def oV(hv:Vd m)(h:∀q,q<2->F q=F' q):PP m F=PP m F'/\m.ws (fT F)=m.ws (fT F')/\ZZ m F=ZZ m F':=by
 have h1:PP m F=PP m F':=by unfold PP;rw[h 0 dQ,h 1 dQ]
 have e:∀l:bO,l.q<2->fT F l=fT F' l:=λl I=>by unfold fT;rw[h _ I]
 have M:m.ws (fT F)=m.ws (fT F'):=Nat.le_antisymm (Pk (λl I=>oz (e l (hv.OM l I))) λj J l I=>oz (e l (hv.jk j J l I))) (Pk (λl I=>oz (e l (hv.OM l I)).symm) λj J l I=>oz (e l (hv.jk j J l I)).symm);exact⟨h1,M,by unfold ZZ;rw[h1,M]⟩
def avw(hv:Vd m)(h:∀q,q<2->nu (F q) (F' q)):m.ws (fT F')<=m.ws (fT F):=Pk (λl I=>(h _ (hv.OM l I)).sl) λj J l I=>(h _ (hv.jk j J l I)).sl
def W9(I:(m.aj n).up=true)(J:(m.aj n).OO=some p)(O:p.ok (m.aj n).bs):∃new,(m.step n).OM=m.OM++new/\(∀x∈new,x.kd≠2)/\(m.step n).off=m.off:=by
 have one:∀ {x:bO},x.kd≠2-> ∀y∈[x],y.kd≠2:=λh y Z=>by rw[aF]at Z;subst Z;exact h
 cases p with
 |serve k Jp op num a=>
  rw[jS E I J E O.1];exact⟨_,E,one (by show(1:Int)≠2;decide),E⟩
 |P8 k b=>
  rw[ng E I J];exact⟨_,E,one (by show(3:Int)≠2;decide),E⟩
 |T9 k b last=>
  cases last with
  |true=>
   rw[jP E I J];exact⟨[],by rw[bI];rfl,(λx M=>av M not_mem_nil),E⟩
  |false=>
   rw[qZ E I J];exact⟨_,E,one (by show(3:Int)≠2;decide),E⟩
 |gy k b at_=>
  rw[oO E I J];dsimp only;unfold lI
  split
  ·exact⟨[],by rw[bI],(λx M=>av M not_mem_nil),E⟩
  exact⟨_,E,one (by show(4:Int)≠2;decide),E⟩
 |P5 k b=>
  rw[lK E I J];exact⟨[],by rw[bI];rfl,(λx M=>av M not_mem_nil),E⟩
def aoK{T S eZ K:Nat}(R:Rm m G B)(R':Rm (m.step n) G' B)(hW:∀q,q<2->nu (FF m G q) (FF (m.step n) G' q))(hb:dW m T S eZ K)(hn:n<5)(J:(m.aj n).OO=some p):
 (m.step n).ws (fT (FF (m.step n) G'))<=m.ws (fT (FF m G))/\PP (m.step n) (FF (m.step n) G')<=PP m (FF m G)/\ZZ (m.step n) (FF (m.step n) G')+1<=ZZ m (FF m G)/\((m.step n).aj n).OO=none:=by
 have hu:=R.up n hn;obtain⟨rs,us,hU⟩:=(hb.jH n hn).uH hu;obtain⟨h1,h2,h3⟩:=hU.FI p J;obtain⟨_,hf⟩:=jL hU.tape hU.mG h2 h3;obtain⟨cO,y1,y2,y3,y4,y5,y6,y7,y8,y9,_⟩:=Cr E hu J h3 hf h2;have eY:(m.step n).aj n=cO:=by rw[y1,Jo]
 have hvY:∀q,cO.bs q=qw (m.aj n) q:=λq=>by
  rw[y2];by_cases e:q=p.q
  ·subst e;rw[Jo,q8 J E]
  rw[Ox e,Aq J (λh=>e h.symm)]
 have I:∀j,j≠n->(m.step n).aj j=m.aj j:=λj hj=>by rw[y1,Ox hj]
 have M:((m.step n).aj n).Mv=(m.aj n).Mv:=by rw[eY,y7]
 obtain⟨new,Z,O⟩:=TD hu J h2;obtain⟨new2,aHZ,hnew2,hoff⟩:=W9 hu J h2;have en:new2=new:=ac6 (aHZ.symm.trans Z);subst en;have hpq:=R.vd.nQ n hn p J;have hs0:∀x∈new2,fT (FF (m.step n) G') x=0:=λx hx=>by
  obtain⟨k1,k2⟩:=O x hx;by_cases h4:x.kd=4
  ·obtain⟨k5,k6,k7,k8⟩:=k2 h4;refine DV (.inr ?_);rw[k5];have hVn:vw (m.step n) p.q n=qw (m.aj n) p.q:=by rw[iC (by rw[eY];exact y6),eY,hvY]
   exact xH (R'.qi _ hpq) hn (by rw[hVn];exact .inr k6) (by rw[hVn];exact k7) (by rw[hVn];exact k8)
  exact DV (.inl ⟨hnew2 x hx,h4⟩)
 have hst:(m.step n).ws (fT (FF (m.step n) G'))<=m.ws (fT (FF m G)):=gB (qP hn I M Z hs0) (avw R.vd hW);have hcl:(m.step n).ws bV<=m.ws bV:=qP hn I M Z λx hx=>vD (O x hx).1;have hvq:∀q,vq (m.step n) q=vq m q:=λq=>by
  funext j
  by_cases e:j=n
  ·subst e;unfold vq;rw[eY,jV y5,hvY]
  exact Mx (I j e)
 have hP:PP (m.step n) (FF (m.step n) G')<=PP m (FF m G):=by
  have k:∀q,q<2-> ∀d v,qQ (FF (m.step n) G' q) d v<=qQ (FF m G q) d v:=λq hq d v=>(hW q hq).pq ((R.qi q hq).o5);unfold PP;rw[hvq,hvq,hoff];have:=k 0 dQ (m.off.at 0).ME (vq m 0);have:=k 1 dQ (m.off.at 1).ME (vq m 1);omega
 refine⟨hst,hP,?_,by rw[eY];exact y5⟩;have:=agV (f:=λj=>sK (m.aj j).OO) (f':=λj=>sK ((m.step n).aj j).OO) (a:=1) hn (λj hj=>by show sK _=sK _;rw[I j hj]) (by show sK _+1<=sK _;rw[eY,y5,J];exact aB);unfold ZZ;omega
def ac7(R:Rm m G B)(hn:n<5):(m.lu n).ws (fT (FF m G))<=m.ws (fT (FF m G))/\PP (m.lu n) (FF m G)<=PP m (FF m G)/\ZZ (m.lu n) (FF m G)<=ZZ m (FF m G):=by
 have hu:=R.up n hn;have J:(m.lu n).aj=PN m.aj n {m.aj n with turn:=(m.aj n).turn+1}:=rfl;have Z:(m.lu n).aj n={m.aj n with turn:=(m.aj n).turn+1}:=by rw[J,Jo]
 have I:∀j,j≠n->(m.lu n).aj j=m.aj j:=λj hj=>by rw[J,Ox hj]
 have hV:∀q,vw m q n=(m.aj n).bs q:=λq=>iC hu;have M:∀x∈ig n ((m.aj n).turn % 4) ((m.aj n).bs ((m.aj n).turn % 4)) ((m.aj n).PZ ((m.aj n).turn % 4)),bV x=0/\fT (FF m G) x=0:=by
  intro x h;have e5:∀y:bO,y.kd=5->bV y=0/\fT (FF m G) y=0:=λy hy=>⟨vD Y,DV (.inl Y)⟩;unfold ig at h
  rcases aP.1 h with h|h
  ·rcases aP.1 h with h|h
   ·split at h
    ·rename_i hr
     rw[aF]at h;subst h;refine⟨vD (by show(2:Int)≠0;decide),DV (.inr ?_)⟩;have h4:(m.aj n).turn % 4<2:=by
      by_cases c:(m.aj n).turn % 4<2
      ·exact c
      have:=R.vd.view hn hu (q:=(m.aj n).turn % 4) Y Y;omega
     exact xH (R.qi _ h4) hn (by rw[hV];exact hr) (by rw[hV];rfl) (by rw[hV];rfl)
    simp at h
   split at h
   ·rw[aF]at h;subst h;exact e5 _ E
   simp at h
  split at h
  ·rw[aF]at h;subst h;exact e5 _ E
  simp at h
 have hst:(m.lu n).ws (fT (FF m G))<=m.ws (fT (FF m G)):=qP hn I (by rw[Z]) E λx h=>(M x h).2;have hcl:(m.lu n).ws bV<=m.ws bV:=qP hn I (by rw[Z]) E λx h=>(M x h).1;have O:∀q,vq (m.lu n) q=vq m q:=λq=>by
  funext j
  by_cases e:j=n
  ·subst e;unfold vq;rw[Z];rfl
  exact Mx (I j e)
 have hP:PP (m.lu n) (FF m G)<=PP m (FF m G):=by
  unfold PP;rw[O,O]
  show 2*(m.lu n).ws bV+(qQ (FF m G 0) (m.off.at 0).ME (vq m 0)+qQ (FF m G 1) (m.off.at 1).ME (vq m 1))<=_
  omega
 refine⟨hst,hP,?_⟩;have:(o5 λj=>sK ((m.lu n).aj j).OO)=o5 λj=>sK (m.aj j).OO:=Ce λj _=>by
  show sK _=sK _
  by_cases e:j=n
  ·subst e;rw[Z]
  rw[I j e]
 unfold ZZ;omega
def aBi(m m':Cl)(F F':Nat->Wy)(n:Nat):Prop:=
 m'.ws (fT F')<=m.ws (fT F)/\PP m' F'<=PP m F/\
 (((m.aj n).OO=none/\(m'.aj n).OO=none/\ZZ m' F'<=ZZ m F/\ ∀q,q<2->F' q=F q)\/((m.aj n).OO≠none/\ZZ m' F'+1<=ZZ m F)\/
  ((m.aj n).OO=none/\(m'.aj n).OO≠none/\ZZ m' F'+1<=ZZ m F/\(m.ws (fT F)=0->ZZ m' F'+7<=ZZ m F)))
def aoL(l:bO):fT F l<=1:=by unfold fT;split<;>omega
def akn(l:bO)(h:fT F l≠0):bV l=0:=by
 unfold fT at h
 split at h
 ·rename_i c;exact vD Y
 exact av E h
def ac8{T S eZ K:Nat}(R:Rm m G B)(hB:B+46<=100000)(hb:dW m T S eZ K)(hn:n<5):∃G',Rm (m.step n) G' B/\(∀q,q<2->nu (FF m G q) (FF (m.step n) G' q))/\aBi m (m.step n) (FF m G) (FF (m.step n) G') n:=by
 have hu:=R.up n hn;obtain⟨rs,us,hU⟩:=(hb.jH n hn).uH hu
 cases hp:(m.aj n).OO with
 |some p=>
  obtain⟨G',R',hW⟩:=acX R hb hn hp;obtain⟨h1,h2,h3,h4⟩:=aoK R R' hW hb hn hp;exact⟨G',R',hW,h1,h2,.inr (.inl ⟨by rw[hp];simp,h3⟩)⟩
 |none=>
  have key:=og (n:=n) (λw=>Kt m n rs w/\ ∃G1,Rm w G1 B/\(∀q,q<2->FF w G1 q=FF m G q)/\w.ws (fT (FF m G))<=m.ws (fT (FF m G))/\PP w (FF m G)<=PP m (FF m G)/\
    (((w.aj n).OO=none/\ZZ w (FF m G)<=ZZ m (FF m G))\/((w.aj n).OO≠none/\ZZ w (FF m G)+1<=ZZ m (FF m G)/\(m.ws (fT (FF m G))=0->ZZ w (FF m G)+7<=ZZ m (FF m G))))) (λw l r ⟨H,G1,M,F1,S1,P1,O⟩ Z hin=>by
   obtain⟨h1,h2,h3,h4⟩:=oh (λl hl=>lM (hb.jk n hn l hl)) H Z hin;have hl0:l∈(w.aj n).Mv:=by rw[hin];simp
   obtain⟨b1,b2⟩:=hb.jk n hn l (H.jk l hl0);have hlq:=M.vd.jk n hn l hl0;have Lv:(w.put n ((w.aj n).box r)).aj=PN w.aj n ((w.aj n).box r):=rfl;have e0:(w.put n ((w.aj n).box r)).aj n=(w.aj n).box r:=aY _;have I:∀j,j≠n->(w.put n ((w.aj n).box r)).aj j=w.aj j:=λj hj=>Ox hj;have hvw:∀q,vw (w.put n ((w.aj n).box r)) q=vw w q:=λq=>oU Lv E;have hF1:FF (w.put n ((w.aj n).box r)) G1=FF w G1:=by funext q;exact Je (.refl _) (by rw[hvw]) (by rw[hvw])
   have hws:∀f:bO->Nat,(w.put n ((w.aj n).box r)).ws f+f l<=w.ws f:=λf=>KE hn (λj hj=>by rw[I j hj]) (by
    rw[e0,hin]
    show eB f w.OM+eB f r+f l<=eB f w.OM+(f l+eB f r)
    omega)
   have R2:Rmc (w.put n ((w.aj n).box r)) G1 B (tJ (FF (w.put n ((w.aj n).box r)) G1) l) (bV l):=by
    refine⟨λj hj=>?_,M.vd.at_ (n:=n) (X:=(w.aj n).box r) E (λq h7 h8=>M.vd.rol n hn q h7 h8) (M.vd.nQ n hn) (λx hx=>M.vd.jk n hn x (by rw[hin];exact dM _ hx)) (λx hx=>.inl hx),λq J=>?_,λj hj=>?_,λq J=>?_⟩
    ·by_cases e:j=n
     ·rw[e,e0];exact M.up n hn
     rw[I j e];exact M.up j hj
    ·exact(M.qi q J).far hn Lv E E E (λx hx=>by rw[hin];exact dM _ hx) (λx hx=>.inl hx) E E E
    ·have h5:=M.Ct j hj;have h6:=hws (tJ (FF w G1));unfold Ct at h5⊢;rw[hF1];by_cases e:j=n
     ·rw[e]at h5⊢;rw[e0];have e1:∀q,qw ((w.aj n).box r) q=qw (w.aj n) q:=λ_=>E;have e2:((w.aj n).box r).data=(w.aj n).data:=rfl;rw[e1,e1,e2];omega
     rw[I j e];omega
    have h5:=M.cap q J;have h6:=Jd (d:=bV l) (d':=bV l) hn I (hws bV) (by rw[e0];show vC (w.aj n).OO+_<=_;omega);rw[hF1];omega
   have hL:∀q,q<2->l.q=q->ER (G1 q) (vw (w.put n ((w.aj n).box r)) q) (w.off.at q) l:=λq J VA=>by rw[hvw];exact(M.qi q J).nD l ⟨VA,.inr ⟨n,hn,hl0⟩⟩
   obtain⟨G2,R3,F2⟩:=RY R2 hB hn h2 (by rw[e0];exact Z) hL b2 b1.2.1 b1.2.2.2 hlq (jG h1.1) h3;have hFF:∀q,q<2->FF (w.put n ((w.aj n).box r)) G1 q=FF m G q:=λq J=>by rw[hF1];exact F1 q J
   obtain⟨z1,z2⟩:=avv R2 hn h2 (by rw[e0];exact Z) hL b2 hlq (jG h1.1) h3 (λq x last hk4 hpe=>avu hk4 (by rw[e0];exact Z) hpe);obtain⟨c1,c2,c3⟩:=oV R3.vd hFF;obtain⟨d1,d2,d3⟩:=oV R2.vd hFF;have es:fT (FF (w.put n ((w.aj n).box r)) G1) l=fT (FF m G) l:=by unfold fT;rw[hFF _ hlq]
   have hvq:∀q,vq (w.put n ((w.aj n).box r)) q=vq w q:=λq=>by
    funext j
    by_cases e:j=n
    ·subst e;unfold vq;rw[e0];rfl
    exact Mx (I j e)
   have hpn:(o5 λj=>sK ((w.put n ((w.aj n).box r)).aj j).OO)=o5 λj=>sK (w.aj j).OO:=Ce λj _=>by
    show sK _=sK _
    by_cases e:j=n
    ·subst e;rw[e0];rfl
    rw[I j e]
   have hwc:=hws bV;have hwt:=hws (fT (FF m G));have hPw:PP (w.put n ((w.aj n).box r)) (FF m G)+2*bV l<=PP w (FF m G):=by
    unfold PP;rw[hvq,hvq]
    show 2*(w.put n ((w.aj n).box r)).ws bV+(qQ (FF m G 0) (w.off.at 0).ME (vq w 0)+qQ (FF m G 1) (w.off.at 1).ME (vq w 1))+_<=_
    omega
   have hZw:ZZ (w.put n ((w.aj n).box r)) (FF m G)+16*bV l+2*fT (FF m G) l<=ZZ w (FF m G):=by
    unfold ZZ;rw[hpn];omega
   have hZ1:ZZ w (FF m G)<=ZZ m (FF m G):=by
    rcases O with⟨_,O⟩|⟨O,_⟩
    ·exact O
    exact av Z O
   have s1:=aoL (F:=FF m G) l;have s2:=akn (F:=FF m G) l;refine⟨h1.1,h4,G2,R3,λq J=>by rw[F2 q J];exact hFF q J,by rw[<-c2];omega,?_,?_⟩
   ·rw[<-c1]
    rcases z2 with⟨_,z3,_⟩|⟨_,z3,_⟩
    ·omega
    by_cases c:fT (FF m G) l=0
    ·omega
    have:=s2 c;omega
   rw[<-c3]
   rcases z2 with⟨z0,_,z3⟩|⟨z0,_,z3⟩
   ·exact .inl ⟨z0,by omega⟩
   refine .inr ⟨z0,by omega,λh0=>?_⟩;have:fT (FF m G) l=0:=by omega
   omega) _ m E ⟨zx hu ⟨_,hU⟩,G,R,λ_ _=>E,aB,aB,.inl ⟨hp,aB⟩⟩
  obtain⟨H1,G1,M,F1,S1,P1,O⟩:=key;rw[jy hu hp];obtain⟨c1,c2,c3⟩:=oV M.vd F1
  split
  ·rename_i hpm
   have hZ1:ZZ (m.more n) (FF m G)<=ZZ m (FF m G):=by
    rcases O with⟨_,O⟩|⟨O,_⟩
    ·exact O
    exact av hpm O
   obtain⟨G2,R2,F2⟩:=acY M hn;obtain⟨d1,d2,d3⟩:=ac7 M hn;obtain⟨e1,e2,e3⟩:=oV R2.vd F2;refine⟨G2,R2,λq J=>by rw[F2 q J,F1 q J];exact .refl _,by omega,by omega,.inl ⟨hp,?_,by omega,λq J=>by rw[F2 q J,F1 q J]⟩⟩
   show((PN (m.more n).aj n { (m.more n).aj n with turn:=((m.more n).aj n).turn+1}) n).OO=none
   rw[Jo];exact hpm
  rename_i hpm
  have hZ1:ZZ (m.more n) (FF m G)+1<=ZZ m (FF m G)/\(m.ws (fT (FF m G))=0->ZZ (m.more n) (FF m G)+7<=ZZ m (FF m G)):=by
   rcases O with⟨O,_⟩|⟨_,O⟩
   ·exact av O hpm
   exact O
  exact⟨G1,M,λq J=>by rw[F1 q J];exact .refl _,by omega,by omega,.inr (.inr ⟨hp,hpm,by omega,λh=>by have:=hZ1.2 h;omega⟩)⟩
def aoM(I:q<4)(J:l.q<4):(m.off.at q).ME<=((eu m.off l).at q).ME:=by
 unfold eu
 split
 ·rename_i c
  obtain⟨M,f2,f3,O,Z⟩:=Lr c.2;rw[Z];dsimp only;rw[fB,qp J I]
  split
  ·rename_i e
   obtain⟨_,_,w3⟩:=qm (d:=m.off) (q:=l.q) (λh=>h M);rw[e];rw[w3,fB]at O
   show(m.off.at l.q).ME<=l.ep+1
   omega
  exact jg _
 exact jg _
def Xa(h:q<4)(I:l.q<4):(m.off.at q).ME<=((m.P6 l).off.at q).ME:=by
 unfold Cl.P6
 split
 ·exact jg _
 split
 ·split<;>exact aoM h I
 split<;>exact jg _
def Si:∀(ls:List bO) {m:Cl},q<4->(∀l∈ls,l.q<4)->(m.off.at q).ME<=((ls.foldl Cl.P6 m).off.at q).ME
 |[],_,_,_=>jg _
 |l::ls,m,h,I=>by
  rw[qX];exact Int.le_trans (Xa h (I l gJ)) (Si ls h λx J=>I x (dM _ J))
def aoN(h:q<4)(I:∀l∈m.OM,l.q<4):(m.off.at q).ME<=(m.all.off.at q).ME:=Si m.OM (m:={m with OM:=[]}) h I
def avx{T S eZ K:Nat}(R:Rm m G B)(hb:dW m T S eZ K):m.all.ws (fT (FF m G))<=m.ws (fT (FF m G))/\PP m.all (FF m G)<=PP m (FF m G)/\ZZ m.all (FF m G)<=ZZ m (FF m G)/\
  ((∀q,q<2->m.all.off.at q=m.off.at q)\/ZZ m.all (FF m G)+7<=ZZ m (FF m G)):=by
 obtain⟨R',hF⟩:=R4 R hb;have hst:m.all.ws (fT (FF m G))<=m.ws (fT (FF m G)):=ET Va hb.nD;have hcl:m.all.ws bV<=m.ws bV:=ET Jc hb.nD;have I:∀q,vq m.all q=vq m q:=λq=>by
  funext j
  obtain⟨ib,e⟩:=rX m j;unfold vq;rw[e];rfl
 have hpn:(o5 λj=>sK (m.all.aj j).OO)=o5 λj=>sK (m.aj j).OO:=Ce λj _=>by
  obtain⟨ib,e⟩:=rX m j
  show sK _=sK _
  rw[e]
 have hd:∀q,q<2->m.all.off.at q=m.off.at q\/(Om (FF m G q) (m.all.off.at q).ME+1<=Om (FF m G q) (m.off.at q).ME):=λq J=>by
  obtain⟨d,d1,d2,d3⟩:=(R.qi q J).dir;obtain⟨d',e1,e2,e3⟩:=(R'.qi q J).dir;have O:=aoN (m:=m) (q:=q) Y λl hl=>(hb.nD l hl).1;rw[d1,e1]at O⊢;dsimp only at O⊢;have hm:(FF m G q).M=(G q).m:=rfl;by_cases c:d'=d
  ·left;rw[c]
  right
  unfold Om;rw[hm,au Y,ah Y];exact aB
 have Z:∀q,q<2->Om (FF m G q) (m.all.off.at q).ME<=Om (FF m G q) (m.off.at q).ME:=λq J=>by
  rcases hd q J with h|h
  ·rw[h];exact aB
  omega
 have l0:=Z 0 dQ;have l1:=Z 1 dQ;have hP:PP m.all (FF m G)<=PP m (FF m G):=by
  unfold PP qQ;rw[I,I];omega
 refine⟨hst,hP,by unfold ZZ;omega,?_⟩
 rcases hd 0 dQ with h0|h0
 ·rcases hd 1 dQ with h1|h1
  ·left
   intro q J;have:q=0\/q=1:=by omega
   rcases this with rfl|rfl
   ·exact h0
   exact h1
  right
  have:PP m.all (FF m G)+1<=PP m (FF m G):=by
   unfold PP qQ;rw[I,I];omega
  unfold ZZ;omega
 right
 have:PP m.all (FF m G)+1<=PP m (FF m G):=by
  unfold PP qQ;rw[I,I];omega
 unfold ZZ;omega
def Bn(m:Cl):Prop:= ∃T S eZ K,dW m T S eZ K
def Bn.step(h:Bn m)(hn:n<5):Bn (m.step n):=by obtain⟨T,S,eZ,K,h⟩:=h;exact⟨_,_,_,_,Ry h hn⟩
def Bn.asc(h:Bn m):Bn m.all:=by obtain⟨T,S,eZ,K,h⟩:=h;exact⟨_,_,_,_,WA h⟩
noncomputable def Cl.cu(m:Cl):Nat->Cl
 | 0=>m
 |i+1=>(m.cu i).step i
noncomputable def Cl.mo(m:Cl):Cl:=(m.cu 5).all
structure Qt (m m':Cl):Prop where
 nQ:∀n,n<5->(m.aj n).OO=none
 ase:∀n,n<5->(m'.aj n).OO=none
 off:∀q,q<2->m'.off.at q=m.off.at q
def oW(h:Bn m):∀i,i<=5->Bn (m.cu i)
 | 0,_=>h
 |i+1,hi=>(oW h i Y).step Y
def Ic(h:Bn m):∀i,i<=5-> ∀j,i<=j->(m.cu i).aj j=m.aj j
 | 0,_,_,_=>rfl
 |i+1,hi,j,hj=>by
  obtain⟨T,S,eZ,K,I⟩:=oW h i Y
  show((m.cu i).step i).aj j=_
  rw[nE I Y Y];exact Ic h i Y j Y
def Xb(h:Bn m){n:Nat}:∀i,i<=5->n<i->(m.cu i).aj n=(m.cu (n+1)).aj n
 | 0,_,hn=>by omega
 |i+1,hi,hn=>by
  by_cases e:n=i
  ·subst e;rfl
  obtain⟨T,S,eZ,K,I⟩:=oW h i Y
  show((m.cu i).step i).aj n=_
  rw[nE I Y e];exact Xb h i Y Y
def Ni{T S eZ K:Nat}(M:dW m T S eZ K)(hn:n<5):(m.step n).off=m.off:=by
 cases I:(m.aj n).up with
 |false=>rw[oN I]
 |true=>
  obtain⟨rs,us,O⟩:=(M.jH n hn).uH I
  cases J:(m.aj n).OO with
  |some p=>
   obtain⟨h1,Z,h3⟩:=O.FI p J;obtain⟨_,_,_,h⟩:=W9 I J Z;exact h
  |none=>
   have H:=M4 I ⟨us,O⟩ λl hl=>lM (M.jk n hn l hl);rw[jy I J]
   split
   ·exact H.keep.off
   exact H.keep.off
def Gz(R:Rm m G B)(Z:B+46<=100000)(M:Bn m):∀i,i<=5-> ∃G',Rm (m.cu i) G' B/\(∀q,q<2->nu (FF m G q) (FF (m.cu i) G' q))/\(m.cu i).ws (fT (FF (m.cu i) G'))<=m.ws (fT (FF m G))/\PP (m.cu i) (FF (m.cu i) G')<=PP m (FF m G)/\
  (((∀n,n<i->(m.aj n).OO=none/\((m.cu i).aj n).OO=none)/\ZZ (m.cu i) (FF (m.cu i) G')<=ZZ m (FF m G)/\ ∀q,q<2->FF (m.cu i) G' q=FF m G q)\/
   (ZZ (m.cu i) (FF (m.cu i) G')+1<=ZZ m (FF m G)/\((∃n,n<5/\(m.aj n).OO≠none)\/m.ws (fT (FF m G))≠0))\/ZZ (m.cu i) (FF (m.cu i) G')+7<=ZZ m (FF m G))
 | 0,_=>⟨G,R,λ_ _=>.refl _,aB,aB,.inl ⟨λn hn=>by omega,aB,λ_ _=>E⟩⟩
 |i+1,hi=>by
  obtain⟨G1,R1,W1,S1,P1,O⟩:=Gz R Z M i Y;obtain⟨T,S,eZ,K,h⟩:=oW M i Y;obtain⟨G2,R2,W2,S2,P2,Z2⟩:=ac8 R1 Z h (n:=i) Y;have e1:(m.cu i).aj i=m.aj i:=Ic M i Y i aB;have I:∀n,n≠i->((m.cu i).step i).aj n=(m.cu i).aj n:=λn hn=>nE h Y hn;refine⟨G2,R2,λq J=>(W1 q J).trans (W2 q J),gB S2 S1,gB P2 P1,?_⟩
  show(_/\ZZ ((m.cu i).step i) (FF ((m.cu i).step i) G2)<=_/\_)\/(ZZ ((m.cu i).step i) (FF ((m.cu i).step i) G2)+1<=_/\_)\/ZZ ((m.cu i).step i) (FF ((m.cu i).step i) G2)+7<=_
  rcases Z2 with⟨p1,p2,z,f⟩|⟨p1,z⟩|⟨p1,p2,z,z7⟩
  ·rcases O with⟨a1,a2,a3⟩|⟨a1,a2⟩|a1
   ·refine .inl ⟨λn hn=>?_,by omega,λq J=>(f q J).trans (a3 q J)⟩;by_cases e:n=i
    ·subst e;rw[e1]at p1;exact⟨p1,p2⟩
    obtain⟨b1,b2⟩:=a1 n Y;exact⟨b1,by show(((m.cu i).step i).aj n).OO=none;rw[I n e];exact b2⟩
   ·exact .inr (.inl ⟨by omega,a2⟩)
   exact .inr (.inr Y)
  ·rcases O with⟨a1,a2,a3⟩|⟨a1,a2⟩|a1
   ·exact .inr (.inl ⟨by omega,.inl ⟨i,by omega,by rw[<-e1];exact p1⟩⟩)
   ·exact .inr (.inl ⟨by omega,a2⟩)
   exact .inr (.inr Y)
  rcases O with⟨a1,a2,a3⟩|⟨a1,a2⟩|a1
  ·by_cases c:(m.cu i).ws (fT (FF (m.cu i) G1))=0
   ·have:=z7 c;exact .inr (.inr Y)
   exact .inr (.inl ⟨by omega,.inr Y⟩)
  ·exact .inr (.inl ⟨by omega,a2⟩)
  exact .inr (.inr Y)
def Ji(R:Rm m G B)(hB:B+46<=100000)(O:Bn m):∃G',Rm m.mo G' B/\Bn m.mo/\(∀q,q<2->nu (FF m G q) (FF m.mo G' q))/\m.mo.ws (fT (FF m.mo G'))<=m.ws (fT (FF m G))/\PP m.mo (FF m.mo G')<=PP m (FF m G)/\
  ((Qt m m.mo/\ZZ m.mo (FF m.mo G')<=ZZ m (FF m G)/\ ∀q,q<2->FF m.mo G' q=FF m G q)\/
   (ZZ m.mo (FF m.mo G')+1<=ZZ m (FF m G)/\((∃n,n<5/\(m.aj n).OO≠none)\/m.ws (fT (FF m G))≠0))\/ZZ m.mo (FF m.mo G')+7<=ZZ m (FF m G)):=by
 obtain⟨G1,R1,W1,S1,P1,Z1⟩:=Gz R hB O 5 aB;have J:=oW O 5 aB;obtain⟨T,S,eZ,K,h⟩:=id J;obtain⟨R2,Z⟩:=R4 R1 h;obtain⟨a1,a2,a3,a4⟩:=avx R1 h;obtain⟨c1,c2,c3⟩:=oV R2.vd Z;have V5:∀j,(m.mo.aj j).OO=((m.cu 5).aj j).OO:=λj=>by
  obtain⟨ib,e⟩:=rX (m.cu 5) j
  show((m.cu 5).all.aj j).OO=_
  rw[e]
 have M:∀i,i<=5->(m.cu i).off=m.off:=by
  intro i
  induction i with
  |zero=>intro _;rfl
  |succ i ih=>
   intro hi;obtain⟨T,S,eZ,K,h⟩:=oW O i Y;exact(Ni h Y).trans (ih Y)
 refine⟨G1,R2,J.asc,λq I=>by show nu _ (FF (m.cu 5).all G1 q);rw[Z q I];exact W1 q I,?_,?_,?_⟩
 ·show(m.cu 5).all.ws (fT (FF (m.cu 5).all G1))<=_
  omega
 ·show PP (m.cu 5).all (FF (m.cu 5).all G1)<=_
  omega
 show(Qt m m.mo/\ZZ (m.cu 5).all (FF (m.cu 5).all G1)<=_/\ ∀q,q<2->FF (m.cu 5).all G1 q=_)\/(ZZ (m.cu 5).all (FF (m.cu 5).all G1)+1<=_/\_)\/ZZ (m.cu 5).all (FF (m.cu 5).all G1)+7<=_
 rcases Z1 with⟨b1,b2,b3⟩|⟨b1,b2⟩|b1
 ·rcases a4 with a4|a4
  ·refine .inl ⟨⟨λn hn=>(b1 n hn).1,λn hn=>by rw[V5];exact(b1 n hn).2,λq I=>?_⟩,by omega,λq I=>(Z q I).trans (b3 q I)⟩
   show(m.cu 5).all.off.at q=_
   rw[a4 q I,M 5 aB]
  exact .inr (.inr Y)
 ·exact .inr (.inl ⟨by omega,b2⟩)
 exact .inr (.inr Y)
end
def Jj(X:Nd)(d:TW):Prop:= ∀q,q<2->(X.PS q).ME<=(d.at q).ME/\(X.PZ q=true->(X.bs q).F9=1->(X.bs q).ep<=(d.at q).ME)
structure Su (m:Cl):Prop where
 jH:∀n,n<5->Jj (m.aj n) m.off
 two:m.off.at 2=nowhere
 Vb:m.off.at 3=nowhere
section
variable {m w m':Cl}{n q k:Nat}{l:bO}{p:dh}{G G':Nat->Gh}{g g':Gh}{X cO:Nd}{d d':TW}{b:bC}
def Jj.up(h:Jj X d)(J:∀q,q<2->(d.at q).ME<=(d'.at q).ME)(M:cO.PS=X.PS)(h1:∀q,q<2->cO.PZ q=true->(cO.bs q).F9=1->X.PZ q=true/\(X.bs q).F9=1/\(cO.bs q).ep=(X.bs q).ep):Jj cO d':=λq I=>⟨by rw[M];have:=(h q I).1;have:=J q I;omega,λhs O=>by
 obtain⟨a,b,c⟩:=h1 q I hs O;have:=(h q I).2 a b;have:=J q I;omega⟩
def Su.at_(h:Su m)(J:∀j,j≠n->m'.aj j=m.aj j)(I:m'.off=m.off)(hn:Jj (m'.aj n) m.off):Su m':=by
 refine⟨λj M=>?_,by rw[I];exact h.two,by rw[I];exact h.Vb⟩;rw[I];by_cases e:j=n
 ·rw[e];exact hn
 rw[J j e];exact h.jH j M
def AZ(h:Jj X d)(hs:cO.PZ=X.PZ)(M:cO.bs=PN X.bs q b)(O:cO.PS=X.PS)(J:b.F9=1->(X.bs q).F9=1/\b.ep=(X.bs q).ep):Jj cO d:=
 h.up (λ_ _=>jg _) O λk Z h1 I=>by
  rw[hs]at h1;rw[M]at I⊢;by_cases e:k=q
  ·subst e;rw[Jo]at I⊢;exact⟨h1,(J I).1,(J I).2⟩
  rw[Ox e]at I⊢;exact⟨h1,I,E⟩
def TH(hQ:∀q,q<2-> ∃g,QI m q g)(hv:Vd m){T S eZ K:Nat}(hb:dW m T S eZ K)(hn:n<5)(h:Su m):Su (m.step n):=by
 refine h.at_ (λj M=>nE hb hn M) (Ni hb hn) ?_;have Z:=h.jH n hn
 cases J:(m.aj n).up with
 |false=>rw[oN J];exact Z
 |true=>
  obtain⟨rs,us,hU⟩:=(hb.jH n hn).uH J
  cases hp:(m.aj n).OO with
  |some p=>
   obtain⟨_,h2,h3⟩:=hU.FI p hp
   cases p with
   |serve k Jp op num a=>
    rw[jS E J hp E h2.1]
    show Jj (PN m.aj n _ n) m.off
    rw[Jo];exact AZ Z E E E λc=>⟨c,E⟩
   |P8 k b=>
    obtain⟨_,e,f,h4,_⟩:=h2;rw[ng E J hp]
    show Jj (PN m.aj n _ n) m.off
    rw[Jo];exact AZ Z E E E λc=>by rw[h4]at c;exact av c (by show(4:Int)≠1;decide)
   |T9 k b last=>
    cases last with
    |true=>
     rw[jP E J hp]
     show Jj (PN m.aj n _ n) m.off
     rw[Jo];refine Z.up (λ_ _=>jg _) E λj M s1 s2=>?_;by_cases e:j=k
     ·subst e;have O:PN (m.aj n).PZ j false j=true:=s1;rw[Jo]at O
      cases O
     have e1:(PN (m.aj n).PZ k false) j=(m.aj n).PZ j:=Ox e;have e2:(PN (m.aj n).bs k b) j=(m.aj n).bs j:=Ox e;have O:(m.aj n).PZ j=true:=e1.symm.trans s1;have s2':((m.aj n).bs j).F9=1:=(bP bC.F9 e2).symm.trans s2;exact⟨O,s2',bP bC.ep e2⟩
    |false=>
     obtain⟨h4,_,_,h5,_⟩:=h2;rw[qZ E J hp]
     show Jj (PN m.aj n _ n) m.off
     rw[Jo];exact AZ Z E E E λc=>by rw[(h5 E).1]at c;exact av (h4.symm.trans c) dQ
   |gy k b at_=>
    obtain⟨h4,h5⟩:=h2;rw[oO E J hp]
    show Jj (PN m.aj n _ n) m.off
    rw[Jo];exact AZ Z E E E λc=>by rw[h5]at c;exact av c (by show(3:Int)≠1;decide)
   |P5 k b=>
    obtain⟨h4,h5⟩:=h2;rw[lK E J hp]
    show Jj (PN m.aj n _ n) m.off
    rw[Jo];exact AZ Z E E E λc=>by rw[h5]at c;exact av c (by show(0:Int)≠1;decide)
  |none=>
   have Qf:∀ {X:Nd} {l:bO},Jj X m.off->l∈(m.aj n).Mv->l.kd=6->Jj (X.Qf n l) m.off:=λ{X l} hX hl hk j M=>by
    unfold Nd.Qf;dsimp only;refine⟨?_,λs1 s2=>?_⟩
    ·split
     ·by_cases e:j=l.q
      ·subst e;obtain⟨g,I⟩:=hQ _ M;obtain⟨i,i1,i2,i3,_⟩:=(I.nD l ⟨E,.inr ⟨n,hn,hl⟩⟩).2.2.2 hk;rw[Jo,i1];exact i3
      rw[Ox e];exact(hX j M).1
     exact(hX j M).1
    split at s1
    ·rename_i c
     by_cases e:j=l.q
     ·subst e;obtain⟨g,I⟩:=hQ _ M;obtain⟨i,i1,i2,i3,_⟩:=(I.nD l ⟨E,.inr ⟨n,hn,hl⟩⟩).2.2.2 hk;rw[c.2,i1];exact i3
     rw[Ox e]at s1;exact(hX j M).2 s1 s2
    exact(hX j M).2 s1 s2
   have key:=og (n:=n) (λw=>Kt m n rs w/\Jj (w.aj n) m.off) (λw l r ⟨H,A⟩ hp1 hin=>by
    obtain⟨h1,h2,h3,h4⟩:=oh (λl hl=>lM (hb.jk n hn l hl)) H hp1 hin;have hl0:l∈(m.aj n).Mv:=H.jk l (by rw[hin];simp);refine⟨h1.1,h4,?_⟩;have e0:(w.put n ((w.aj n).box r)).aj n=(w.aj n).box r:=aY _;have A0:Jj ((w.aj n).box r) m.off:=A;generalize (w.put n ((w.aj n).box r)).PY n l=m2 at h3⊢;generalize w.put n ((w.aj n).box r)=w2 at h3 e0;rw[<-e0]at A0;clear e0 h2 h4 hin hp1 A H
    cases h3 with
    |same=>exact A0
    |done a c1 c2=>rw[(uI (m:=w2)).2.1];exact A0
    |TV c1=>exact A0
    |part b c1 c2 c3 c4 c5 c6=>
     obtain⟨g1,g2,g3⟩:=oP (m:=w2.aC n l.q b) (n:=n) (q:=l.q) (a:=l.at_);rw[g2,show(w2.aC n l.q b).aj n=(w2.aj n).aC l.q b from aY _];refine AZ A0 E E E λc=>?_
     rcases c4 with⟨c4,c7,_⟩|⟨c4,c7⟩
     ·rw[c7]at c;exact av (c4.symm.trans c) dQ
     rw[c7]at c;exact av (c4.symm.trans c) dQ
    |OO p cO d c1 c2 c3 c4 c5=>
     rw[aY]
     rcases c1 with c1|⟨c0,c1⟩
     ·rw[c1];exact A0
     rw[c1];exact Qf A0 hl0 c0
    |Qf c1=>rw[aY];exact Qf A0 hl0 c1) _ m E ⟨zx J ⟨_,hU⟩,Z⟩
   obtain⟨H1,A1⟩:=key;rw[jy J hp]
   split
   ·show Jj (PN (m.more n).aj n { (m.more n).aj n with turn:=((m.more n).aj n).turn+1} n) m.off
    rw[Jo];exact A1
   exact A1
def avy(h:Su m)(hn:∀j,j<5->(m'.aj j).PZ=(m.aj j).PZ/\(m'.aj j).bs=(m.aj j).bs/\(m'.aj j).PS=(m.aj j).PS)(O:∀q,q<2->(m.off.at q).ME<=(m'.off.at q).ME)(Z:m'.off.at 2=m.off.at 2)(h3:m'.off.at 3=m.off.at 3):Su m':=by
 refine⟨λj I=>(h.jH j I).up O (hn j I).2.2 λq hq J M=>?_,Z.trans h.two,h3.trans h.Vb⟩;rw[(hn j I).1]at J;rw[(hn j I).2.1]at M⊢;exact⟨J,M,E⟩
def ac9(h:Su m)(O:l.q<2):Su (m.P6 l):=by
 refine avy h (λj _=>?_) (λq Z=>Xa Y Y) ?_ ?_
 ·obtain⟨ib,e⟩:=AY m l j;rw[e];exact⟨E,E,E⟩
 all_goals
  have I:∀q,2<=q->q<4->(eu m.off l).at q=m.off.at q:=λq h1 J=>by
   unfold eu
   split
   ·rename_i c
    obtain⟨_,_,_,_,M⟩:=Lr c.2;rw[M];dsimp only;rw[fB,qp Y J,ah Y]
   rfl
  unfold Cl.P6
  split
  ·rfl
  split
  ·split<;>exact I _ dQ dQ
  split<;>rfl
def Xc:∀(ls:List bO) {m:Cl},Su m->(∀l∈ls,l.q<2)->Su (ls.foldl Cl.P6 m)
 |[],_,h,_=>h
 |l::ls,m,h,I=>Xc ls (ac9 h (I l gJ)) λx J=>I x (dM _ J)
def Zh(h:Su m)(hv:Vd m):Su m.all:=Xc m.OM (m:={m with OM:=[]}) ⟨h.jH,h.two,h.Vb⟩ hv.OM
end
section
variable {m:Cl}{n:Nat}{l:bO}{rs:List dN}{b:bC}{G:List Ev}
def ako(h:pG (m.aj n) rs []):0<=(m.aj n).OY/\(m.aj n).OY<=(m.aj n).data.length:=by
 have h1:=h.OY;have I:=bP length h.data;rw[bI]at I;omega
def EC{xs:List dN}(I:pG (m.aj n) rs [])(J:∀r∈xs,aO r=0)(h:(m.aj n).data.length+46*xs.length<=100000):∃x,(m.aj n).write xs=some x:=by
 obtain⟨h1,M⟩:=ako I;unfold Nd.write;rw[BI J h1 M h];exact⟨_,E⟩
def TI{P:dN->Prop}{r:dN}(h:P r):∀x∈[r],P x:=λx I=>by rw[aF]at I;subst I;exact h
def Yz(M:l.kd=2)(I:pG (m.aj n) rs [])(J:l.q<4)(hr:((m.aj n).bs l.q).F9=0\/((m.aj n).bs l.q).F9=4)(he:((m.aj n).bs l.q).ep<l.ep)(h1:1<=l.ep/\l.ep<=1048576)(h2:0<=l.fr/\l.fr<=4)(hd:(m.aj n).data.length+46<=100000):
 ((m.PY n l).aj n).OO≠none:=by
 have O:=I.mG l.q J;rw[show m.PY n l=m.TM n l by unfold Cl.PY;rw[ah Y,au M]];have Z:dV ((m.aj n).bs l.q) l.ep l.fr=(⟨4,l.ep,l.fr,0,0,[]⟩,0):=by
  unfold dV;rw[ah (λh=>h O),ah Y,ah Y,ah Y,ah Y]
 obtain⟨x,hx⟩:=EC (xs:=[gZ 4 l.q l.ep l.fr aQ]) I (TI (rV dQ J Y Y dQ)) (by rw[l8];omega);unfold Cl.TM;rw[Z];dsimp only;rw[ah (λh=>h E),ah Y,hx];dsimp only;rw[aY];simp
def YA(I:l.kd=2)(J:ay ((m.aj n).bs l.q)=0)(M:((m.aj n).bs l.q).F9=4)(he:((m.aj n).bs l.q).ep=l.ep)(O:((m.aj n).bs l.q).fr=l.fr)(h1:1<=l.ep/\l.ep<=1048576)(h2:0<=l.fr/\l.fr<=4):m.PY n l=m.TV n l.q:=by
 rw[show m.PY n l=m.TM n l by unfold Cl.PY;rw[ah Y,au I]];have Z:dV ((m.aj n).bs l.q) l.ep l.fr=((m.aj n).bs l.q,0):=by
  unfold dV;rw[ah (λh=>h J),ah Y,ah Y,au ⟨M,he,O⟩]
 unfold Cl.TM;rw[Z];dsimp only;rw[ah (λh=>h E),au E]
def PartOf(b:bC)(n q:Nat)(a:Int)(x:bO):Prop:=x.kd=4/\x.fr=n/\x.tg=b.tg/\x.q=q/\x.ep=b.ep+1/\x.at_=a/\x.Jp=(b.Jp.drop a.toNat).take 3/\x.last=decide (b.F9=3/\b.Jp.length<=a.toNat+3)
def Oo(J:ay b=0)(M:b.F9=2\/b.F9=3)(O:0<=l.at_/\l.at_<=b.Jp.length)(he:(m.aj n).bs l.q=b):∃x∈(m.part n l.q l.at_).OM,PartOf b n l.q l.at_ x:=by
 have I:jq b l.at_=((b.Jp.drop l.at_.toNat).take 3,decide (b.F9=3/\b.Jp.length<=l.at_.toNat+3),0):=by
  unfold jq;rw[ah (λh=>h J),ah Y,ah Y]
 unfold Cl.part;rw[he,I];rw[ah (λh=>h E)];refine⟨IV n l.q b l.at_,aK _ (aF.2 E),E,E,E,E,E,E,?_,?_⟩
 ·show(jq b l.at_).1=_;rw[I]
 show(jq b l.at_).2.1=_;rw[I]
def avz(hk:l.kd=3)(hU:pG (m.aj n) rs [])(hq:l.q<4)(hr:((m.aj n).bs l.q).F9=2\/((m.aj n).bs l.q).F9=3)(ht:((m.aj n).bs l.q).tg=l.fr)(he:((m.aj n).bs l.q).ep+1=l.ep)(ha:0<=l.at_/\l.at_<=((m.aj n).bs l.q).Jp.length)(hd:(m.aj n).data.length+46<=100000):
 ((m.PY n l).aj n).OO≠none\/((((m.aj n).bs l.q).F9=3\/l.at_< ((m.aj n).bs l.q).Jp.length)/\ ∃x∈(m.PY n l).OM,PartOf ((m.aj n).bs l.q) n l.q l.at_ x):=by
 have M:=hU.mG l.q hq;rw[show m.PY n l=m.Ud n l by unfold Cl.PY;rw[ah Y,ah Y,au hk]];unfold Cl.Ud;rw[ah Y];have hs:=fI M;have I:∀b':bC,(((m.aC n l.q b').aj n).bs l.q)=b':=λb'=>by rw[show(m.aC n l.q b').aj n=(m.aj n).aC l.q b' from aY _];exact Jo _ _ _
 by_cases O:((m.aj n).bs l.q).F9=3
 ·have J:bY ((m.aj n).bs l.q) l.at_=((m.aj n).bs l.q,0):=by
   unfold bY;rw[ah (λh=>h M),ah Y,ah Y,au O]
  rw[J];dsimp only;rw[ah (λh=>h E),au E];exact .inr ⟨.inl O,Oo (m:=m.aC n l.q ((m.aj n).bs l.q)) M hr ha (I _)⟩
 have h2:((m.aj n).bs l.q).F9=2:=by omega
 by_cases c:l.at_=((m.aj n).bs l.q).Jp.length\/((m.aj n).bs l.q).rd=4
 ·left
  have J:bY ((m.aj n).bs l.q) l.at_=({ (m.aj n).bs l.q with F9:=3,rd:=0},0):=by
   unfold bY;rw[ah (λh=>h M),ah Y,ah Y,ah O,au c]
  unfold bL at hs;obtain⟨x,hx⟩:=EC (xs:=[gZ 3 l.q ((m.aj n).bs l.q).ep ((m.aj n).bs l.q).tg aQ]) hU (TI (rV dQ hq Y Y dQ)) (by rw[l8];omega);rw[J];dsimp only;rw[ah (λh=>h E),ah Y,hx];dsimp only;rw[aY];simp
 right
 have J:bY ((m.aj n).bs l.q) l.at_=({ (m.aj n).bs l.q with rd:=((m.aj n).bs l.q).rd+1},0):=by
  unfold bY;rw[ah (λh=>h M),ah Y,ah Y,ah O,ah c]
 rw[J];dsimp only;rw[ah (λh=>h E),au E];have Z:ay { (m.aj n).bs l.q with rd:=((m.aj n).bs l.q).rd+1}=0:=by
  have:=DZ (b:=(m.aj n).bs l.q) (hv:=l.at_) M (by rw[J]);rw[J]at this;exact this
 refine⟨.inr Y,?_⟩;obtain⟨x,x1,x2⟩:=Oo (m:=m.aC n l.q { (m.aj n).bs l.q with rd:=((m.aj n).bs l.q).rd+1}) (n:=n) (l:=l) Z (.inl h2) ha (I _);exact⟨x,x1,x2⟩
def aoO(hk:l.kd=6)(J:pG (m.aj n) rs [])(M:l.q<4)(Z:((m.aj n).bs l.q).F9=3)(he:((m.aj n).bs l.q).ep<l.ep)(hd:(m.aj n).data.length+46<=100000):((m.PY n l).aj n).OO≠none:=by
 have O:=J.mG l.q M;rw[show m.PY n l=m.Ui n l by unfold Cl.PY;rw[ah Y,ah Y,ah Y,ah Y]];have hs:=fI O;unfold bL at hs;have hF:iw ((m.aj n).bs l.q) l.ep=(⟨0,((m.aj n).bs l.q).ep,0,0,0,[]⟩,0):=by
  unfold iw;rw[ah (λh=>h O),ah (λh=>h Z),ah Y]
 obtain⟨x,hx⟩:=EC (xs:=[gZ 7 l.q ((m.aj n).bs l.q).ep 0 aQ]) J (TI (rV dQ M Y Y dQ)) (by rw[l8];omega);obtain⟨d,hw,hxe⟩:=qj hx;have I:((m.aj n).Qf n l).write [gZ 7 l.q ((m.aj n).bs l.q).ep 0 aQ]=some { (m.aj n).Qf n l with data:=d}:=by
  unfold Nd.write;rw[show((m.aj n).Qf n l).data=(m.aj n).data from E,show((m.aj n).Qf n l).OY=(m.aj n).OY from E,hw];rfl
 unfold Cl.Ui;rw[hF];dsimp only;rw[ah (λh=>h E),I];dsimp only;rw[aY];simp
def avA(hk:l.kd=4)(hU:pG (m.aj n) rs [])(hq:l.q<4)(hr:((m.aj n).bs l.q).F9=4)(hf:((m.aj n).bs l.q).fr=l.fr)(he:((m.aj n).bs l.q).ep=l.ep)(ha:0<=l.at_/\l.at_<=((m.aj n).bs l.q).Jp.length)
  (h1:((m.aj n).bs l.q).Jp=G.take ((m.aj n).bs l.q).Jp.length) (h2:l.Jp=(G.drop l.at_.toNat).take l.Jp.length) (h3:l.at_.toNat+l.Jp.length<=G.length) (M:((m.aj n).bs l.q).Jp.length<l.at_.toNat+l.Jp.length\/l.last=true) (h5:l.last=true->l.at_.toNat+l.Jp.length=G.length)
  (hg:Ua G) (hg2:Ua (G++[bg])) (hd:(m.aj n).data.length+46*(G.length+1-((m.aj n).bs l.q).Jp.length)<=100000):((m.PY n l).aj n).OO≠none:=by
 have hb:=hU.mG l.q hq;have hs:=fI hb;have hlen:((m.aj n).bs l.q).Jp.length<=G.length:=by have:=bP length h1;rw[eD]at this;omega
 rw[show m.PY n l=m.T9 n l by unfold Cl.PY;rw[ah Y,ah Y,ah Y,au hk]];generalize hB:(m.aj n).bs l.q=b at*;obtain⟨k,Z⟩:∃k:Nat,l.at_=k:=⟨l.at_.toNat,by omega⟩;rw[Z,fB]at h2 h3 M h5;rw[Z]at ha;have hkb:k<=b.Jp.length:=by omega
 have hj:b.Jp.length<=k+l.Jp.length:=by
  rcases M with M|M
  ·omega
  have:=h5 M;omega
 have hd1:l.Jp.drop (b.Jp.length-k)=(G.drop b.Jp.length).take (k+l.Jp.length-b.Jp.length):=by
  rw[bP (List.drop (b.Jp.length-k)) h2,Aw,lW,show k+(b.Jp.length-k)=b.Jp.length by omega]
  congr 1
  omega
 have e1:b.Jp++l.Jp.drop (b.Jp.length-k)=G.take (k+l.Jp.length):=by
  rw[hd1]
  conv=>lhs;lhs;rw[h1]
  have:=take_add (l:=G) (i:=b.Jp.length) (j:=k+l.Jp.length-b.Jp.length);rw[show b.Jp.length+(k+l.Jp.length-b.Jp.length)=k+l.Jp.length by omega]at this;exact this.symm
 have e2:(b.Jp.drop k).take l.Jp.length=l.Jp.take (b.Jp.length-k):=by
  have a1:b.Jp.drop k=(G.drop k).take (b.Jp.length-k):=by
   conv=>lhs;rw[h1]
   rw[Aw]
  have a2:l.Jp.take (b.Jp.length-k)=(G.drop k).take (min (b.Jp.length-k) l.Jp.length):=by
   conv=>lhs;rw[h2]
   rw[yh]
  rw[a1,a2,yh,Nat.min_comm]
 have hge:Ua (G.take (k+l.Jp.length)):=xC hg;obtain⟨es,O⟩:∃es,G.take (k+l.Jp.length)=es:=⟨_,E⟩;have hel:es.length=k+l.Jp.length:=by rw[<-O,eD];omega
 rw[O]at e1 hge;unfold bL at hs;obtain⟨res,hres,hrl,J⟩:∃res:bC,dP b l.ep l.at_ l.Jp l.last=(res,0)/\res.Jp.length=k+l.Jp.length+(if l.last=true then 1 else 0)/\(res.Jp=if l.last=true then es++[bg]else es)/\res.ep=b.ep:=by
  have hz:ay (if l.last=true then⟨1,l.ep,0,0,0,es++[bg]⟩else{b with Jp:=es})=0:=by
   split
   ·rename_i c
    have:es=G:=by rw[<-O,h5 c,jM]
    rw[this];exact om (zZ Y Y _) hg2
   exact om (qh (fI hb) Y _) hge
  refine⟨if l.last=true then⟨1,l.ep,0,0,0,es++[bg]⟩else{b with Jp:=es},?_,?_,?_,?_⟩
  ·unfold dP;rw[Z,fB,e1];rw[ah (λh=>h hb),ah (λh=>h hr),ah (λh=>h he),ah Y,ah (λh=>h e2),ah Y,ah (λh=>h hz)]
  ·split
   ·show(es++[bg]).length=_;rw[aZ,l8,hel]
   exact hel
  ·split<;>rfl
  split
  ·exact he.symm
  rfl
 obtain⟨J,hre⟩:=J;have hgt:b.Jp.length<res.Jp.length:=by
  rw[hrl]
  split
  ·omega
  rename_i c
  rcases M with M|M
  ·omega
  exact av M c
 have hfe:∀e∈res.Jp,bK e=0:=by
  rw[J]
  split
  ·rename_i c
   have:es=G:=by rw[<-O,h5 c,jM]
   rw[this];exact Df E hg2
  exact Df E hge
 unfold Cl.T9;rw[hB,hres];dsimp only;rw[ah Y,ah dQ,ah (by rintro(h|h)<;>omega)];obtain⟨x,hx⟩:=EC (xs:=r9 l.q res b.Jp.length (l.at_.toNat+l.Jp.length) l.last) hU (λr I=>by
  unfold r9 at I
  rcases aP.1 I with I|I
  ·obtain⟨e,he1,rfl⟩:=pJ.1 I;exact rV dQ hq Y dQ (by
    rw[au dQ];exact hfe e (mem_of_mem_take (SX he1)))
  ·split at I
   ·rw[aF]at I;subst I;exact rV dQ hq Y dQ dQ
   simp at I) (by
  have:(r9 l.q res b.Jp.length (l.at_.toNat+l.Jp.length) l.last).length<=G.length+1-b.Jp.length:=by
   unfold r9;rw[aZ,iE,dO,eD];by_cases c:l.last=true
   ·rw[au c,l8];omega
   rw[ah c,length_nil];omega
  omega)
 rw[hx];dsimp only;rw[aY];simp
end
structure Sm (b' b:bC):Prop where
 F9:b'.F9=b.F9
 ep:b'.ep=b.ep
 fr:b'.fr=b.fr
 tg:b'.tg=b.tg
 Jp:b'.Jp=b.Jp
def Sm.refl(b:bC):Sm b b:=⟨E,E,E,E,E⟩
def Sm.trans{a b c:bC}(h:Sm a b)(I:Sm b c):Sm a c:=⟨h.F9.trans I.F9,h.ep.trans I.ep,h.fr.trans I.fr,h.tg.trans I.tg,h.Jp.trans I.Jp⟩
def aii(b:bC)(n q:Nat)(x:bO):Prop:=x.kd=3/\x.fr=n/\x.tg=b.fr/\x.q=q/\x.ep=b.ep/\x.at_=b.Jp.length
structure Xd (F:Wy)(b:bC)(n:Nat)(l:bO)(OM:List bO):Prop where
 new:l.kd=2->(b.F9=0\/b.F9=4)->b.ep<l.ep->False
 off:l.kd=2->b.F9=4->b.ep=l.ep->b.fr=l.fr-> ∃x∈OM,aii b n l.q x
 hav:l.kd=3->(b.F9=2\/b.F9=3)->b.tg=l.fr->b.ep+1=l.ep->0<=l.at_/\l.at_<=b.Jp.length->(b.F9=3\/l.at_<b.Jp.length)/\ ∃x∈OM,PartOf b n l.q l.at_ x
 prt:l.kd=4->F.R=1->(n:Int)=F.tg->l.ep=F.M+1->b.F9=4->b.fr=l.fr->b.ep=l.ep->l.at_=b.Jp.length->(l.Jp≠[]\/l.last=true)->False
 lrn:l.kd=6->b.F9=3->b.ep<l.ep->False
section
variable {m w m':Cl}{n q B:Nat}{l:bO}{p:dh}{G G':Nat->Gh}{g g':Gh}{rs us:List dN}{F:Wy}{b b':bC}{fl U7:List bO}{d:Int}
def Xd.mono(h:Xd F b n l fl)(M:∀x∈fl,x∈U7):Xd F b n l U7:=
 ⟨h.new,λa b c d=>by obtain⟨x,I,J⟩:=h.off a b c d;exact⟨x,M x I,J⟩,λa b c d e=>by obtain⟨y,x,I,J⟩:=h.hav a b c d e;exact⟨y,x,M x I,J⟩,h.prt,h.lrn⟩
def Xd.sm(h:Xd F b n l fl)(s:Sm b b'):Xd F b' n l fl:=by
 refine⟨λa c d=>h.new a (by rw[s.F9];exact c) (by rw[s.ep];exact d),λa c d e=>?_,λa c d e f=>?_,λa c d e f i j k u=>h.prt a c d e (by rw[s.F9];exact f) (by rw[s.fr];exact i) (by rw[s.ep];exact j) (by rw[s.Jp];exact k) u,λa c d=>h.lrn a (by rw[s.F9];exact c) (by rw[s.ep];exact d)⟩
 ·obtain⟨x,J,I⟩:=h.off a (by rw[s.F9];exact c) (by rw[s.ep];exact d) (by rw[s.fr];exact e);unfold aii at I;rw[s.fr,s.ep,s.Jp]at I;exact⟨x,J,I⟩
 obtain⟨y,x,J,I⟩:=h.hav a (by rw[s.F9];exact c) (by rw[s.tg];exact d) (by rw[s.ep];exact e) (by rw[s.Jp];exact f);unfold PartOf at I;rw[s.tg,s.ep,s.Jp,s.F9]at I;rw[s.F9,s.Jp]at y;exact⟨y,x,J,I⟩
def Zi(H:Hnd m n l m')(q:Nat):Sm ((m'.aj n).bs q) ((m.aj n).bs q):=by
 cases H with
 |same=>exact .refl _
 |done a h1 I=>rw[(uI (m:=m)).2.1];exact .refl _
 |TV h1=>exact .refl _
 |part b h1 I J h M O=>
  obtain⟨Z,g2,g3⟩:=oP (m:=m.aC n l.q b) (n:=n) (q:=l.q) (a:=l.at_);rw[g2,show(m.aC n l.q b).aj n=(m.aj n).aC l.q b from aY _];by_cases e:q=l.q
  ·rw[e,show((m.aj n).aC l.q b).bs l.q=b from Jo _ _ _]
   rcases h with⟨_,h,_⟩|⟨_,h⟩<;>rw[h]<;>exact⟨E,E,E,E,E⟩
  rw[show((m.aj n).aC l.q b).bs q=(m.aj n).bs q from Ox e];exact .refl _
 |OO p cO d h1 I J h M=>
  rw[aY]
  rcases h1 with h1|⟨_,h1⟩<;>rw[h1]<;>exact .refl _
 |Qf h1=>rw[aY];exact .refl _
def aoP(R:Rmc m G B (tJ (FF m G) l) (bV l))(hB:B+46<=100000)(hn:n<5)(hU:pG (m.aj n) rs [])(hp:(m.aj n).OO=none)(hL:ER (G l.q) (vw m l.q) (m.off.at l.q) l)(hlq:l.q<2)(hq:((m.PY n l).aj n).OO=none):
 Xd (FF m G l.q) ((m.aj n).bs l.q) n l (m.PY n l).OM:=by
 have hu:=R.up n hn;have I:=R.qi _ hlq;have hV:=iC (q:=l.q) hu;have hcap:=R.cap _ hlq;have hM:=I.VE;have Z:=R.Ct n hn;have hd:(m.aj n).data.length+46<=100000:=by unfold Ct at Z;omega
 have hb:=hU.mG l.q Y;have hoff:l.kd=2->(1<=l.ep/\l.ep<=1048576)/\(0<=l.fr/\l.fr<=4):=λJ=>by
  obtain⟨k,k1,k2,k3,k4⟩:=hL.1 J;have:=I.Zz k k2 k3;omega
 refine⟨λJ O he=>?_,λJ O he hf=>?_,λJ O ht he ha=>?_,λJ hR ht he O hf hbe ha hne=>?_,λJ O he=>?_⟩
 ·obtain⟨h1,h2⟩:=hoff J;exact Yz J hU Y O he h1 h2 hd hq
 ·obtain⟨h1,h2⟩:=hoff J;rw[YA J hb O he hf h1 h2];exact⟨ou n l.q ((m.aj n).bs l.q),aK _ (aF.2 E),E,E,E,E,E,E⟩
 ·rcases avz J hU Y O ht he ha hd with h|h
  ·exact av hq h
  exact h
 ·obtain⟨k,k1,k2,k3,k4,k5,k6,k7,k8⟩:=hL.2.1 J;have hm:(FF m G l.q).M=(G l.q).m:=rfl;have hkm:k=(G l.q).m:=by omega
  subst hkm;have hbd:(G l.q).bd (G l.q).m=(G l.q).G.length:=au E;rw[hbd]at k7;have PX:n≠(G l.q).o:=I.rW (.inr (by rw[hV];exact O));have hev:((m.aj n).bs l.q).Jp=(G l.q).G.take ((m.aj n).bs l.q).Jp.length:=by
   rcases I.oM n hn PX with⟨h5,_⟩|⟨_,h5,_⟩|⟨k',_,h2,h3,h4,_,h6,_⟩
   ·rw[hV]at h5;omega
   ·rw[hV]at h5;omega
   rw[hV]at h6;exact h6
  have hlen:((m.aj n).bs l.q).Jp.length<=(G l.q).G.length:=by have:=bP length hev;rw[eD]at this;omega
  have hlast:l.last=true->l.at_.toNat+l.Jp.length=(G l.q).G.length:=λh=>by
   rcases k8 h with⟨h1,_⟩|⟨_,_,_,h1⟩
   ·omega
   exact h1
  refine avA (G:=(G l.q).G) J hU Y O hf hbe ⟨by omega,by omega⟩ hev k6 k7 ?_ hlast I.gd (akl I.gd Y) ?_ hq
  ·rcases hne with h|h
   ·left
    have:=length_pos_iff.2 h;omega
   exact .inr h
  have hfi:46*(302-((m.aj n).bs l.q).Jp.length)<=fi (FF m G l.q) n (qw (m.aj n) l.q):=by
   rw[jV hp];unfold fi WS;rw[au ⟨hR,ht⟩,au Y];omega
  have h01:l.q=0\/l.q=1:=by omega
  unfold Ct at Z
  rcases h01 with e|e<;>rw[e]at hfi hcap hR hlen⊢ <;>omega
 exact aoO J hU Y O he hd hq
def ada(b:bC)(n q:Nat)(x:bO):Prop:=x.kd=2/\x.fr=n/\x.tg=b.tg/\x.q=q/\x.ep=b.ep+1
def aij(b:bC)(n q:Nat)(x:bO):Prop:=x.kd=5/\x.fr=n/\x.tg= -2/\x.q=q/\x.ep=b.ep-1/\x.nd=n
structure Dut (b:bC)(d:Int)(n q:Nat)(OM:List bO):Prop where
 off:b.F9=2\/b.F9=3-> ∃x∈OM,ada b n q x
 ask:b.F9=3->Rf n q∈OM
 flp:b.F9=1->1<b.ep-> ¬b.ep<=d-> ∃x∈OM,aij b n q x
def Dut.mono(h:Dut b d n q fl)(I:∀x∈fl,x∈U7):Dut b d n q U7:=
 ⟨λa=>by obtain⟨x,J,M⟩:=h.off a;exact⟨x,I x J,M⟩,λa=>I _ (h.ask a),λa b c=>by obtain⟨x,J,M⟩:=h.flp a b c;exact⟨x,I x J,M⟩⟩
structure QS (m m':Cl)(F:Nat->Wy)(n:Nat):Prop where
 dZ:m'.ws bV+eB bV (m.aj n).Mv<=m.ws bV
 Z8:m'.ws (fT F)+eB (fT F) (m.aj n).Mv<=m.ws (fT F)
 bs:∀q,Sm ((m'.aj n).bs q) ((m.aj n).bs q)
 IW:(m'.aj n).turn=(m.aj n).turn+1
 jk:(m'.aj n).Mv=[]
 OM:∀x∈m.OM,x∈m'.OM
 rep:∀l∈(m.aj n).Mv,Xd (F l.q) ((m.aj n).bs l.q) n l m'.OM
 dut:(m.aj n).turn % 4<2->Dut ((m.aj n).bs ((m.aj n).turn % 4)) (m.off.at ((m.aj n).turn % 4)).ME n ((m.aj n).turn % 4) m'.OM
def Xe:∀(k:Nat) (w:Cl),(w.aj n).Mv.length=k->(∀l∈(w.aj n).Mv,l.q<4)->((w.more n).aj n).OO=none->((w.more n).aj n).Mv=[]
 | 0,w,I,_,_=>by rw[MZ (pW.1 I)];exact pW.1 I
 |k+1,w,I,hi,hp=>by
  cases h:(w.aj n).Mv with
  |nil=>rw[h]at I;simp at I
  |cons l r=>
   have M:=hi l (by rw[h];exact gJ);by_cases J:(w.aj n).OO=none
   ·rw[JL J h M]at hp⊢;have e:=(jG (m:=w.put n ((w.aj n).box r)) (n:=n) (l:=l) M).jk;rw[aY]at e;have O:(((w.put n ((w.aj n).box r)).PY n l).aj n).Mv=r:=e;refine Xe k _ (by rw[O];rw[h]at I;simpa using I) (λx Z=>?_) hp;rw[O]at Z;exact hi x (by rw[h];exact dM _ Z)
   rw[Ep J]at hp;exact av hp J
def aoQ(R:Rmc m G B (tJ (FF m G) l) (bV l))(hn:n<5)(hp:(m.aj n).OO=none)(M:l.q<2)(H:Hnd m n l m'):∃new,m'.OM=m.OM++new/\ ∀x∈new,bV x=0/\fT (FF m G) x=0:=by
 have hu:=R.up n hn;obtain⟨new,hf,h⟩:=LG hu H;obtain⟨new2,J,I⟩:=Nh H;have en:new2=new:=ac6 (J.symm.trans hf);subst en;refine⟨new2,J,λx O=>⟨vD (h x O).1,?_⟩⟩;obtain⟨h1,h2⟩:=h x O;by_cases h4:x.kd=4
 ·obtain⟨h5,h6,h7,h8⟩:=h2 h4;refine DV (.inr ?_);rw[h5];have Z:=iC (q:=l.q) hu;exact xH (R.qi _ M) hn (by rw[Z];exact h6) (by rw[Z];exact h7) (by rw[Z];exact h8)
 exact DV (.inl ⟨I x O,h4⟩)
def Xf(hn:n<5):(m.lu n).ws bV<=m.ws bV:=by
 have I:(m.lu n).aj=PN m.aj n {m.aj n with turn:=(m.aj n).turn+1}:=rfl;refine qP hn (λj M=>by rw[I,Ox M]) (by rw[I,Jo]) E λx h=>?_;have J:∀y:bO,y.kd≠0->bV y=0:=λy O=>vD O;unfold ig at h
 rcases aP.1 h with h|h
 ·rcases aP.1 h with h|h
  ·split at h
   ·rw[aF]at h;subst h;exact J _ (by show(2:Int)≠0;decide)
   simp at h
  split at h
  ·rw[aF]at h;subst h;exact J _ (by show(5:Int)≠0;decide)
  simp at h
 split at h
 ·rw[aF]at h;subst h;exact J _ (by show(5:Int)≠0;decide)
 simp at h
def adf{r:List bO}(R:Rm w G B)(hn:n<5)(J:(w.aj n).Mv=l::r):Rmc (w.put n ((w.aj n).box r)) G B (tJ (FF (w.put n ((w.aj n).box r)) G) l) (bV l)/\FF (w.put n ((w.aj n).box r)) G=FF w G/\(∀q,vw (w.put n ((w.aj n).box r)) q=vw w q):=by
 have I:(w.put n ((w.aj n).box r)).aj=PN w.aj n ((w.aj n).box r):=rfl;have e0:(w.put n ((w.aj n).box r)).aj n=(w.aj n).box r:=aY _;have h:∀j,j≠n->(w.put n ((w.aj n).box r)).aj j=w.aj j:=λj M=>Ox M;have O:∀q,vw (w.put n ((w.aj n).box r)) q=vw w q:=λq=>oU I E;have Z:FF (w.put n ((w.aj n).box r)) G=FF w G:=by funext q;exact Je (.refl _) (by rw[O]) (by rw[O])
 have hws:∀f:bO->Nat,(w.put n ((w.aj n).box r)).ws f+f l<=w.ws f:=λf=>KE hn (λj M=>by rw[h j M]) (by
  rw[e0,J]
  show eB f w.OM+eB f r+f l<=eB f w.OM+(f l+eB f r)
  omega)
 refine⟨⟨λj M=>?_,R.vd.at_ (n:=n) (X:=(w.aj n).box r) E (λq h7 h8=>R.vd.rol n hn q h7 h8) (R.vd.nQ n hn) (λx hx=>R.vd.jk n hn x (by rw[J];exact dM _ hx)) (λx hx=>.inl hx),λq hq=>?_,λj M=>?_,λq hq=>?_⟩,Z,O⟩
 ·by_cases e:j=n
  ·rw[e,e0];exact R.up n hn
  rw[h j e];exact R.up j M
 ·exact(R.qi q hq).far hn I E E E (λx hx=>by rw[J];exact dM _ hx) (λx hx=>.inl hx) E E E
 ·have h5:=R.Ct j M;have h6:=hws (tJ (FF w G));unfold Ct at h5⊢;rw[Z];by_cases e:j=n
  ·rw[e]at h5⊢;rw[e0];have e1:∀q,qw ((w.aj n).box r) q=qw (w.aj n) q:=λ_=>E;have e2:((w.aj n).box r).data=(w.aj n).data:=rfl;rw[e1,e1,e2];omega
  rw[h j e];omega
 have h5:=R.cap q hq;have h6:=Jd (d:=bV l) (d':=bV l) hn h (hws bV) (by rw[e0];show vC (w.aj n).OO+_<=_;omega);rw[Z];omega
def quiet_step{T S eZ K:Nat}(R:Rm m G B)(hB:B+46<=100000)(hb:dW m T S eZ K)(hn:n<5)(hS:Su (m.step n))(hp:(m.aj n).OO=none)(hp':((m.step n).aj n).OO=none):QS m (m.step n) (FF m G) n:=by
 have hu:=R.up n hn;obtain⟨rs,us,hU⟩:=(hb.jH n hn).uH hu;have key:=og (n:=n) (λw=>Kt m n rs w/\(∃G1,Rm w G1 B/\ ∀q,q<2->FF w G1 q=FF m G q)/\(∀q,Sm ((w.aj n).bs q) ((m.aj n).bs q))/\(∀x∈m.OM,x∈w.OM)/\(w.ws bV+eB bV (m.aj n).Mv<=m.ws bV+eB bV (w.aj n).Mv/\w.ws (fT (FF m G))+eB (fT (FF m G)) (m.aj n).Mv<=m.ws (fT (FF m G))+eB (fT (FF m G)) (w.aj n).Mv)/\
   ((w.aj n).OO=none-> ∀l∈(m.aj n).Mv,l∈(w.aj n).Mv\/Xd (FF m G l.q) ((m.aj n).bs l.q) n l w.OM)) (λw l r ⟨H,⟨G1,R1,F1⟩,A,Af,⟨Ac,As⟩,Ar⟩ M J=>by
  obtain⟨h1,h2,h3,h4⟩:=oh (λl hl=>lM (hb.jk n hn l hl)) H M J;have hl0:l∈(w.aj n).Mv:=by rw[J];simp
  obtain⟨b1,b2⟩:=hb.jk n hn l (H.jk l hl0);have O:=R1.vd.jk n hn l hl0;have e0:(w.put n ((w.aj n).box r)).aj n=(w.aj n).box r:=aY _;obtain⟨R2,hF1,hvw⟩:=adf R1 hn J;have hL:∀q,q<2->l.q=q->ER (G1 q) (vw (w.put n ((w.aj n).box r)) q) (w.off.at q) l:=λq hq VA=>by rw[hvw];exact(R1.qi q hq).nD l ⟨VA,.inr ⟨n,hn,hl0⟩⟩
  obtain⟨G2,R3,F2⟩:=RY R2 hB hn h2 (by rw[e0];exact M) hL b2 b1.2.1 b1.2.2.2 O (jG h1.1) h3;have Z:∀x∈w.OM,x∈((w.put n ((w.aj n).box r)).PY n l).OM:=λx I=>by
   obtain⟨new,hf,_⟩:=Nh h3;rw[hf];exact bM _ I
  have ayN:∀q,Sm (((w.put n ((w.aj n).box r)).aj n).bs q) ((m.aj n).bs q):=λq=>by rw[e0];exact A q
  refine⟨h1.1,h4,⟨G2,R3,λq hq=>by rw[F2 q hq,hF1];exact F1 q hq⟩,λq=>(Zi h3 q).trans (ayN q),λx I=>Z x (Af x I),?_,λhpe x I=>?_⟩
  ·obtain⟨new,hf,hnw⟩:=aoQ R2 hn (by rw[e0];exact M) O h3;have mP:=jG (m:=w.put n ((w.aj n).box r)) (n:=n) (l:=l) h1.1;have hi2:(((w.put n ((w.aj n).box r)).PY n l).aj n).Mv=r:=by rw[mP.jk,e0];rfl
   have hoth:∀j,j≠n->(w.put n ((w.aj n).box r)).aj j=w.aj j:=λj hj=>Ox hj;have hws:∀f:bO->Nat,(w.put n ((w.aj n).box r)).ws f+f l<=w.ws f:=λf=>KE hn (λj hj=>by rw[hoth j hj]) (by
    rw[e0,J]
    show eB f w.OM+eB f r+f l<=eB f w.OM+(f l+eB f r)
    omega)
   have c1:=qP (f:=bV) hn mP.oM mP.jk hf λx I=>(hnw x I).1;have c2:=qP (f:=fT (FF m G)) hn mP.oM mP.jk hf λx I=>by
    have:=(hnw x I).2;have hxq:x.q<2:=R3.vd.OM x (by rw[hf];exact aK _ I);rw[hF1]at this;unfold fT at this⊢;rw[<-F1 _ hxq];exact this
   have h5:=hws bV;have h6:=hws (fT (FF m G));rw[hi2];rw[J,eB]at Ac As;exact⟨by omega,by omega⟩
  rcases Ar M x I with I|I
  ·rw[J]at I
   rcases iq.1 I with I|I
   ·subst I
    right
    have:=aoP R2 hB hn h2 (by rw[e0];exact M) (hL _ O E) O hpe;rw[hF1,F1 _ O]at this;exact this.sm (ayN _)
   left
   have e:=(jG (m:=w.put n ((w.aj n).box r)) (n:=n) (l:=l) h1.1).jk;rw[e0]at e;rw[e];exact I
  exact .inr (I.mono Z)) _ m E ⟨zx hu ⟨_,hU⟩,⟨G,R,λ_ _=>E⟩,λ_=>.refl _,λ_ h=>h,⟨aB,aB⟩,λ_ l hl=>.inl hl⟩
 obtain⟨H,⟨G1,R1,F1⟩,A,Af,⟨Ac,As⟩,Ar⟩:=key;rw[jy hu hp]at hp' hS⊢;by_cases c:((m.more n).aj n).OO=none
 ·rw[au c]at hp' hS⊢;have hi0:=Xe (n:=n) _ m E (λl hl=>(hb.jk n hn l hl).1.1) c;have e1:((m.more n).lu n).aj n={ (m.more n).aj n with turn:=((m.more n).aj n).turn+1}:=by
   show PN (m.more n).aj n _ n=_
   exact Jo _ _ _
  have htr:=H.IW;have Z:∀x∈(m.more n).OM,x∈((m.more n).lu n).OM:=λx I=>bM _ I;have hdc:=Xf (m:=m.more n) hn;have hds:=(ac7 R1 hn).1;have hcg:((m.more n).lu n).ws (fT (FF m G))<=(m.more n).ws (fT (FF m G)):=by
   obtain⟨_,c2,_⟩:=oV (Tz R1.vd hn (R1.up n hn)) F1;obtain⟨_,c3,_⟩:=oV R1.vd F1;omega
  rw[hi0,eB]at Ac As;refine⟨by omega,by omega,λq=>by rw[e1];exact A q,by rw[e1];show((m.more n).aj n).turn+1=_;rw[htr],by rw[e1];exact hi0,λx I=>Z x (Af x I),λl hl=>?_,λh4=>?_⟩
  ·rcases Ar c l hl with h|h
   ·rw[hi0]at h;cases h
   exact h.mono Z
  have hA:=A ((m.aj n).turn % 4);have hsu:=(hS.jH n hn ((m.aj n).turn % 4) h4).2;rw[e1]at hsu;have hoff:((m.more n).lu n).off=m.off:=H.keep.off;rw[hoff]at hsu;have hm:∀x,x∈ig n ((m.aj n).turn % 4) (((m.more n).aj n).bs ((m.aj n).turn % 4)) (((m.more n).aj n).PZ ((m.aj n).turn % 4))->x∈((m.more n).lu n).OM:=λx I=>by
   show x∈(m.more n).OM++ig n (((m.more n).aj n).turn % 4) (((m.more n).aj n).bs (((m.more n).aj n).turn % 4)) (((m.more n).aj n).PZ (((m.more n).aj n).turn % 4))
   rw[htr];exact aK _ I
  refine⟨λhr=>⟨_,hm _ (bM _ (bM _ (by rw[au (by rw[hA.F9];exact hr)];exact aF.2 E))),E,E,hA.tg,E,by show _+1=_;rw[hA.ep]⟩,λhr=>hm _ (bM _ (aK _ (by rw[au (by rw[hA.F9];exact hr)];exact aF.2 E))),λhr he hd=>?_⟩;have hns:((m.more n).aj n).PZ ((m.aj n).turn % 4)=false:=by
   cases hs:((m.more n).aj n).PZ ((m.aj n).turn % 4)with
   |false=>rfl
   |true=>
    have h5:(((m.more n).aj n).bs ((m.aj n).turn % 4)).ep<=_:=hsu hs (by show(((m.more n).aj n).bs _).F9=1;rw[hA.F9];exact hr);rw[hA.ep]at h5;exact av h5 hd
  exact⟨_,hm _ (aK _ (by rw[au ⟨by rw[hA.F9];exact hr,by rw[hA.ep];exact he,hns⟩];exact aF.2 E)),E,E,E,E,by show _-1=_;rw[hA.ep],E⟩
 rw[ah c]at hp';exact av hp' c
end
structure Dk (d:TW):Prop where
 pl:∀q,q<2->0<=(d.at q).node/\(d.at q).node<=4/\1<=(d.at q).ME/\(d.at q).ME<=1048576
 two:d.at 2=nowhere
 Vb:d.at 3=nowhere
def LM(p p':Pl):Prop:=p'=p\/p.ME<p'.ME
section
variable {m w m':Cl}{n q B:Nat}{l x:bO}{p:dh}{G G':Nat->Gh}{g g':Gh}{rs us:List dN}{F:Wy}{b b':bC}{d d':TW}{fl U7:List bO}
def LM.trans{a b c:Pl}(h:LM a b)(I:LM b c):LM a c:=by
 rcases h with h|h
 ·subst h;exact I
 rcases I with I|I
 ·subst I;exact .inr h
 exact .inr (K4 h I)
def LM.ep{a b:Pl}(h:LM a b):a.ME<=b.ME:=by
 rcases h with h|h
 ·subst h;exact jg _
 exact Td h
def Dk.ok(h:Dk d):iI d=0:=yS λk J=>by
 have I:k=0\/k=1\/k=2\/k=3:=by omega
 rcases I with rfl|rfl|rfl|rfl
 ·exact .inr (h.pl 0 dQ)
 ·exact .inr (h.pl 1 dQ)
 ·rw[h.two];exact .inl ⟨E,E⟩
 rw[h.Vb];exact .inl ⟨E,E⟩
def Dk.whr(h:Dk d)(I:q<2):aN d q=(d.at q,0):=by
 have h1:=h.pl q I;have e:(q:Int).toNat=q:=fB q;have:=DY (d:=d) (q:=(q:Int)) h.ok Y (λc=>by rw[e]at c;rw[c]at h1;exact av h1.1 dQ);rw[e]at this;exact this
def adg(h:Dk d)(I:l.q<2):Dk (eu d l)/\(∀q,q<2->LM (d.at q) ((eu d l).at q))/\(0<=l.nd->l.nd<=4->(d.at l.q).ME=l.ep->(d.at l.q).node≠l.nd->l.ep≠1048576->(d.at l.q).ME< ((eu d l).at l.q).ME):=by
 unfold eu;by_cases c:0<=l.nd/\(yI d l.q l.ep l.nd).2=0
 ·rw[au c];obtain⟨c0,c1⟩:=c;obtain⟨O,Z,f3,J,f5⟩:=Lr c1;have hne:l.ep≠1048576:=λe=>by
   unfold yI at c1;rw[ah (λk=>k O),ah Y,ah (λk=>k J)]at c1
   split at c1
   ·exact av c1 dQ
   first|exact av c1 dQ|(rw[au e]at c1;exact av c1 dQ)
  rw[h.whr I]at J;have h1:=h.pl _ I;rw[f5];dsimp only;rw[fB];dsimp only at J;refine⟨⟨λk M=>?_,?_,?_⟩,λk M=>?_,λ_ _ _ _ _=>?_⟩
  ·rw[qp Y Y]
   split
   ·exact⟨Z,f3,by show 1<=l.ep+1;omega,by show l.ep+1<=_;omega⟩
   exact h.pl k M
  ·rw[qp Y dQ,ah Y];exact h.two
  ·rw[qp Y dQ,ah Y];exact h.Vb
  ·rw[qp Y Y]
   split
   ·rename_i e
    subst e;exact .inr (by show _<l.ep+1;omega)
   exact .inl E
  rw[qp Y Y,au E]
  show _<l.ep+1
  omega
 rw[ah c];refine⟨h,λ_ _=>.inl E,λa1 a2 a3 a4 a5=>av ⟨a1,?_⟩ c⟩;unfold yI;rw[h.whr I];dsimp only;rw[ah (λk=>k E),ah Y,ah (λk=>k a3),ah a4,ah a5]
def adh(h:Dk w.off)(O:l.q<2):Dk (w.P6 l).off/\(∀q,q<2->LM (w.off.at q) ((w.P6 l).off.at q))/\(∀x∈w.OM,x∈(w.P6 l).OM)/\(∀j,∀x∈(w.aj j).Mv,x∈((w.P6 l).aj j).Mv):=by
 obtain⟨I,J,_⟩:=adg h O;unfold Cl.P6
 split
 ·exact⟨h,λ_ _=>.inl E,λ_ h=>h,λ_ _ h=>h⟩
 split
 ·split
  ·exact⟨I,J,λ_ h=>bM _ h,λ_ _ h=>h⟩
  exact⟨I,J,λ_ h=>h,λ_ _ h=>h⟩
 split
 ·refine⟨h,λ_ _=>.inl E,λ_ h=>h,λj x M=>?_⟩;by_cases e:j=l.tg.toNat
  ·subst e;rw[aY];exact bM _ M
  rw[show ∀X,(w.put l.tg.toNat X).aj j=w.aj j from λX=>Ox e];exact M
 exact⟨h,λ_ _=>.inl E,λ_ h=>h,λ_ _ h=>h⟩
def Xg:∀(ls:List bO) {w:Cl},Dk w.off->(∀l∈ls,l.q<2)->Dk (ls.foldl Cl.P6 w).off/\(∀q,q<2->LM (w.off.at q) ((ls.foldl Cl.P6 w).off.at q))/\(∀x∈w.OM,x∈(ls.foldl Cl.P6 w).OM)/\(∀j,∀x∈(w.aj j).Mv,x∈((ls.foldl Cl.P6 w).aj j).Mv)
 |[],w,h,_=>⟨h,λ_ _=>.inl E,λ_ h=>h,λ_ _ h=>h⟩
 |l::ls,w,h,J=>by
  obtain⟨a1,a2,a3,a4⟩:=adh h (J l gJ);obtain⟨b1,b2,b3,b4⟩:=Xg ls a1 λx I=>J x (dM _ I);rw[qX];exact⟨b1,λq M=>(a2 q M).trans (b2 q M),λx I=>b3 x (a3 x I),λj x I=>b4 j x (a4 j x I)⟩
structure Arr (d:TW)(x:bO)(m':Cl):Prop where
 jH:0<=x.tg->x∈(m'.aj x.tg.toNat).Mv
 ask:x.tg= -2-> ∃y∈m'.OM,y.kd=6/\y.tg=x.fr/\y.q=x.q/\(d.at x.q).ME<=y.ep
 flp:x.tg= -2->0<=x.nd->x.nd<=4->(d.at x.q).ME=x.ep->(d.at x.q).node≠x.nd->x.ep≠1048576->(d.at x.q).ME< (m'.off.at x.q).ME
def Sj:∀(ls:List bO) {w:Cl},Dk w.off->(∀q,q<2->LM (d.at q) (w.off.at q))->(∀l∈ls,l.q<2)->(∀l∈ls,0<=l.tg->l.tg.toNat<5)->(∀j,j<5->(w.aj j).up=true)-> ∀x∈ls,Arr d x (ls.foldl Cl.P6 w)
 |[],_,_,_,_,_,_,x,J=>by cases J
 |l::ls,w,h,hd,Z,ht,hu,x,J=>by
  obtain⟨a1,a2,a3,a4⟩:=adh h (Z l gJ);have I:=Z l gJ;have hu':∀j,j<5->((w.P6 l).aj j).up=true:=λj hj=>by
   obtain⟨ib,e⟩:=AY w l j;rw[e];exact hu j hj
  rw[qX]
  rcases iq.1 J with J|J
  ·subst J;obtain⟨b1,b2,b3,b4⟩:=Xg ls a1 λy M=>Z y (dM _ M);obtain⟨f1,f2,f3⟩:=adg h I;refine⟨λh0=>b4 _ _ ?_,λh2=>?_,λh2 n1 n2 n3 n4 n5=>?_⟩
   ·unfold Cl.P6;rw[ah Y,ah Y,au (hu _ (ht x gJ h0)),aY];exact aK _ (aF.2 E)
   ·have hw:=f1.whr I;refine⟨mE x.fr x.q ((eu w.off x).at x.q),b3 _ ?_,E,E,E,((hd _ I).trans (f2 _ I)).ep⟩;unfold Cl.P6;rw[ah Y,au h2,hw];rw[au E];exact aK _ (aF.2 E)
   have O:(w.P6 x).off=eu w.off x:=by
    unfold Cl.P6;rw[ah Y,au h2]
    split<;>rfl
   have hb:=(b2 _ I).ep;rw[O]at hb
   rcases hd _ I with e|e
   ·rw[<-e]at n3 n4⊢;have:=f3 n1 n2 n3 n4 n5;omega
   have:=(f2 _ I).ep;omega
  exact Sj ls a1 (λq hq=>(hd q hq).trans (a2 q hq)) (λy M=>Z y (dM _ M)) (λy M=>ht y (dM _ M)) hu' x J
def aoR{T S eZ K:Nat}(hv:Vd m)(I:dW m T S eZ K)(J:∀j,j<5->(m.aj j).up=true)(h:Dk m.off):∀x∈m.OM,Arr m.off x m.all:=
 Sj m.OM (w:={m with OM:=[]}) h (λ_ _=>.inl E) hv.OM (λl M O=>by obtain⟨_,_,h1,_⟩:=I.nD l M;omega) J
def aBj(R:Rm m G B)(h:Su m):Dk m.off:=by
 refine⟨λq J=>?_,h.two,h.Vb⟩;have I:=R.qi q J;obtain⟨d,M,O,Z⟩:=I.dir;have h1:=I.Zz d O Y;have h2:=I.VE;have h3:=R.cap q J;rw[M];dsimp only;omega
structure QN (m m':Cl)(F:Nat->Wy)(n:Nat):Prop where
 bs:∀q,Sm ((m'.aj n).bs q) ((m.aj n).bs q)
 IW:(m'.aj n).turn=(m.aj n).turn+1
 rep:∀l∈(m.aj n).Mv,Xd (F l.q) ((m.aj n).bs l.q) n l m'.OM
 dut:(m.aj n).turn % 4<2->Dut ((m.aj n).bs ((m.aj n).turn % 4)) (m.off.at ((m.aj n).turn % 4)).ME n ((m.aj n).turn % 4) m'.OM
def Xh(m:Cl)(f:bO->Nat):Nat->Nat
 | 0=>0
 |i+1=>Xh m f i+eB f (m.aj i).Mv
def Oq(R:Rm m G B)(hB:B+46<=100000)(hb:Bn m)(hS:Su m)(hQ:Qt m m.mo):∀i,i<=5-> ∃G',Rm (m.cu i) G' B/\(∀q,q<2->FF (m.cu i) G' q=FF m G q)/\Su (m.cu i)/\(m.cu i).off=m.off/\(∀x∈m.OM,x∈(m.cu i).OM)/\((m.cu i).ws bV+Xh m bV i<=m.ws bV/\(m.cu i).ws (fT (FF m G))+Xh m (fT (FF m G)) i<=m.ws (fT (FF m G)))/\ ∀n,n<i->QN m (m.cu i) (FF m G) n
 | 0,_=>⟨G,R,λ_ _=>E,hS,E,λ_ h=>h,⟨aB,aB⟩,λn hn=>by omega⟩
 |i+1,hi=>by
  obtain⟨G1,Z,F1,S1,O1,L1,⟨C1,D1⟩,N1⟩:=Oq R hB hb hS hQ i Y;obtain⟨T,S,eZ,K,I⟩:=oW hb i Y;obtain⟨G2,R2,W2,Sz,Pz,Z2⟩:=ac8 Z hB I (n:=i) Y;have e1:(m.cu i).aj i=m.aj i:=Ic hb i Y i aB;have hp:((m.cu i).aj i).OO=none:=by rw[e1];exact hQ.nQ i Y
  have hp':(((m.cu i).step i).aj i).OO=none:=by
   have h1:=hQ.ase i Y;obtain⟨ib,e⟩:=rX (m.cu 5) i;have h2:((m.cu 5).all.aj i).OO=none:=h1;rw[e]at h2;have h3:((m.cu 5).aj i).OO=none:=h2;rw[Xb hb 5 aB (n:=i) Y]at h3;exact h3
  have F2:∀q,q<2->FF ((m.cu i).step i) G2 q=FF (m.cu i) G1 q:=by
   rcases Z2 with⟨_,_,_,f⟩|⟨c,_⟩|⟨_,c,_⟩
   ·exact f
   ·exact av hp c
   exact av hp' c
  have S2:Su ((m.cu i).step i):=TH (λq hq=>⟨_,Z.qi q hq⟩) Z.vd I Y S1;have Q:=quiet_step Z hB I Y S2 hp hp';have M:=Q.OM;refine⟨G2,R2,λq hq=>(F2 q hq).trans (F1 q hq),S2,(Ni I Y).trans O1,λx hx=>M x (L1 x hx),?_,λn hn=>?_⟩
  ·have q1:=Q.dZ;have q2:=Q.Z8;rw[e1]at q1 q2;obtain⟨_,c2,_⟩:=oV R2.vd F1;obtain⟨_,c3,_⟩:=oV Z.vd F1;have c4:eB (fT (FF (m.cu i) G1)) (m.aj i).Mv=eB (fT (FF m G)) (m.aj i).Mv:=by
    have hw:∀l∈(m.aj i).Mv,fT (FF (m.cu i) G1) l=fT (FF m G) l:=λl J=>by
     have O:=R.vd.jk i Y l J;unfold fT;rw[F1 _ O]
    exact Nat.le_antisymm (wD λl J=>oz (hw l J)) (wD λl J=>oz (hw l J).symm)
   show((m.cu i).step i).ws bV+(Xh m bV i+_)<=_/\((m.cu i).step i).ws (fT (FF m G))+(Xh m (fT (FF m G)) i+_)<=_
   exact⟨by omega,by omega⟩
  show QN m ((m.cu i).step i) (FF m G) n
  by_cases e:n=i
  ·subst e;refine⟨λq=>by rw[<-e1];exact Q.bs q,by rw[<-e1];exact Q.IW,λl J=>?_,λh4=>?_⟩
   ·rw[<-e1]at J⊢;have O:=Z.vd.jk n Y l J;have:=Q.rep l J;rw[F1 _ O]at this;exact this
   rw[<-e1]at h4⊢;have:=Q.dut h4;rw[O1]at this;exact this
  have N:=N1 n Y;have e2:((m.cu i).step i).aj n=(m.cu i).aj n:=nE I Y e;exact⟨λq=>by rw[e2];exact N.bs q,by rw[e2];exact N.IW,λl J=>(N.rep l J).mono M,λh4=>(N.dut h4).mono M⟩
def Nj:∀(ls:List bO) {w:Cl},(∀x∈w.OM,x.kd=6)-> ∀x∈(ls.foldl Cl.P6 w).OM,x.kd=6
 |[],_,h=>h
 |l::ls,w,h=>by
  rw[qX];refine Nj ls λx I=>?_;unfold Cl.P6 at I
  split at I
  ·exact h x I
  split at I
  ·split at I
   ·rcases aP.1 I with I|I
    ·exact h x I
    rw[aF]at I;subst I;rfl
   exact h x I
  split at I
  ·exact h x I
  exact h x I
structure Q1 (m m':Cl)(F:Nat->Wy)(fl:List bO):Prop where
 bs:∀n,n<5-> ∀q,Sm ((m'.aj n).bs q) ((m.aj n).bs q)
 IW:∀n,n<5->(m'.aj n).turn=(m.aj n).turn+1
 rep:∀n,n<5-> ∀l∈(m.aj n).Mv,Xd (F l.q) ((m.aj n).bs l.q) n l fl
 dut:∀n,n<5->(m.aj n).turn % 4<2->Dut ((m.aj n).bs ((m.aj n).turn % 4)) (m.off.at ((m.aj n).turn % 4)).ME n ((m.aj n).turn % 4) fl
 OM:∀x∈m.OM,x∈fl
 arr:∀x∈fl,Arr m.off x m'
 dZ:m'.ws bV<=eB bV m.OM
 Z8:m'.ws (fT F)<=eB (fT F) m.OM
 k6:∀x∈m'.OM,x.kd=6
def Zj:∀x∈m.mo.OM,x.kd=6:=Nj (m.cu 5).OM (w:={m.cu 5 with OM:=[]}) λx h=>by cases h
def JU(R:Rm m G B)(hB:B+46<=100000)(hb:Bn m)(hS:Su m)(hQ:Qt m m.mo):∃fl G',Rm m.mo G' B/\(∀q,q<2->FF m.mo G' q=FF m G q)/\Bn m.mo/\Su m.mo/\Q1 m m.mo (FF m G) fl:=by
 obtain⟨G1,O,F1,S1,O1,L1,⟨C1,D1⟩,Z⟩:=Oq R hB hb hS hQ 5 aB;have J:=oW hb 5 aB;obtain⟨T,S,eZ,K,h⟩:=id J;obtain⟨R2,F2⟩:=R4 O h;have M:∀f:bO->Nat,m.ws f=eB f m.OM+Xh m f 5:=λf=>by
  unfold Cl.ws Xh Xh Xh Xh Xh Xh;omega
 have c1:=M bV;have c2:=M (fT (FF m G));have w1:(m.cu 5).all.ws bV<=(m.cu 5).ws bV:=ET Jc h.nD;have w2:(m.cu 5).all.ws (fT (FF m G))<=(m.cu 5).ws (fT (FF m G)):=ET Va h.nD;have hnd:∀j,∃ib,m.mo.aj j={ (m.cu 5).aj j with Mv:=ib}:=λj=>rX (m.cu 5) j;have I:=aoR O.vd h O.up (by rw[O1];exact aBj R hS);rw[O1]at I;refine⟨(m.cu 5).OM,G1,R2,λq hq=>(F2 q hq).trans (F1 q hq),J.asc,Zh S1 O.vd,⟨λn hn q=>?_,λn hn=>?_,λn hn=>(Z n hn).rep,λn hn=>(Z n hn).dut,L1,I,?_,?_,Zj⟩⟩
 ·obtain⟨ib,e⟩:=hnd n;rw[e];exact(Z n hn).bs q
 ·obtain⟨ib,e⟩:=hnd n;rw[e];exact(Z n hn).IW
 ·show(m.cu 5).all.ws bV<=_;omega
 show(m.cu 5).all.ws (fT (FF m G))<=_;omega
end
noncomputable def Cl.rs(m:Cl):Nat->Cl
 | 0=>m
 |i+1=>(m.rs i).mo
section
variable {m w m':Cl}{n q k B:Nat}{l x:bO}{G G':Nat->Gh}{g g':Gh}{F:Wy}{b b':bC}{d:Int}{fl U7:List bO}
def Dut.sm(h:Dut b d n q fl)(s:Sm b b'):Dut b' d n q fl:=by
 refine⟨λa=>?_,λa=>h.ask (by rw[s.F9];exact a),λa c e=>?_⟩
 ·obtain⟨x,J,I⟩:=h.off (by rw[s.F9];exact a);unfold ada at I;rw[s.tg,s.ep]at I;exact⟨x,J,I⟩
 obtain⟨x,J,I⟩:=h.flp (by rw[s.F9];exact a) (by rw[s.ep];exact c) (by rw[s.ep];exact e);unfold aij at I;rw[s.ep]at I;exact⟨x,J,I⟩
structure agl (m w:Cl)(G:Nat->Gh)(B i:Nat):Prop where
 rm:∃G',Rm w G' B/\ ∀q,q<2->FF w G' q=FF m G q
 bn:Bn w
 su:Su w
 off:∀q,q<2->w.off.at q=m.off.at q
 bs:∀n,n<5-> ∀q,Sm ((w.aj n).bs q) ((m.aj n).bs q)
 IW:∀n,n<5->(w.aj n).turn=(m.aj n).turn+i
structure Wq (m w w':Cl)(F:Nat->Wy)(i:Nat)(fl:List bO):Prop where
 rep:∀n,n<5-> ∀l∈(w.aj n).Mv,Xd (F l.q) ((m.aj n).bs l.q) n l fl
 dut:∀n,n<5-> ∀q,q<2->((m.aj n).turn+i) % 4=q->Dut ((m.aj n).bs q) (m.off.at q).ME n q fl
 OM:∀x∈w.OM,x∈fl
 arr:∀x∈fl,Arr w.off x w'
 dZ:w'.ws bV<=eB bV w.OM
 Z8:w'.ws (fT F)<=eB (fT F) w.OM
 k6:∀x∈w'.OM,x.kd=6
def Xi{F F':Nat->Wy}:∀ {a:List bO},(∀x∈a,x.q<2)->(∀q,q<2->F q=F' q)->eB (fT F) a=eB (fT F') a
 |[],_,_=>rfl
 |l::a,h,I=>by
  have e:fT F l=fT F' l:=by unfold fT;rw[I _ (h l gJ)]
  rw[eB,eB,e,Xi (λx J=>h x (dM _ J)) I]
def ayP{i:Nat}(h:agl m w G B i)(hB:B+46<=100000)(hQ:Qt w w.mo):agl m w.mo G B (i+1)/\ ∃fl,Wq m w w.mo (FF m G) i fl:=by
 obtain⟨G1,O,M⟩:=h.rm;obtain⟨fl,G2,R2,F2,b2,s2,I⟩:=JU O hB h.bn h.su hQ;refine⟨⟨⟨G2,R2,λq J=>(F2 q J).trans (M q J)⟩,b2,s2,λq J=>(hQ.off q J).trans (h.off q J),λn hn q=>(I.bs n hn q).trans (h.bs n hn q),λn hn=>by rw[I.IW n hn,h.IW n hn];omega⟩,fl,λn hn l hl=>?_,λn hn q J ht=>?_,I.OM,I.arr,I.dZ,?_,I.k6⟩
 ·have Z:=O.vd.jk n hn l hl;have:=(I.rep n hn l hl).sm (h.bs n hn l.q);rw[M _ Z]at this;exact this
 ·have e:(w.aj n).turn % 4=q:=by rw[h.IW n hn];exact ht
  have:=I.dut n hn Y;rw[e,h.off q J]at this;exact this.sm (h.bs n hn q)
 have e1:w.mo.ws (fT (FF m G))=w.mo.ws (fT (FF w G1)):=(oV R2.vd λq J=>(M q J).symm).2.1;rw[e1,<-Xi O.vd.OM M];exact I.Z8
def avC(R:Rm m G B)(h:Bn m)(I:Su m):agl m m G B 0:=⟨⟨G,R,λ_ _=>E⟩,h,I,λ_ _=>E,λ_ _ _=>.refl _,λ_ _=>E⟩
def win(R:Rm m G B)(h:B+46<=100000)(I:Bn m)(J:Su m)(hQ:∀i,i<k->Qt (m.rs i) (m.rs (i+1))):∀i,i<=k->agl m (m.rs i) G B i
 | 0,_=>avC R I J
 |i+1,hi=>(ayP (win R h I J hQ i Y) h (hQ i Y)).1
def LP(R:Rm m G B)(h:B+46<=100000)(I:Bn m)(J:Su m)(hQ:∀i,i<k->Qt (m.rs i) (m.rs (i+1))){i:Nat}(hi:i<k):∃fl,Wq m (m.rs i) (m.rs (i+1)) (FF m G) i fl:=
 (ayP (win R h I J hQ i Y) h (hQ i hi)).2
def four(t q:Nat)(h:q<4):∃i,i<4/\(t+i) % 4=q:=by
 have:t % 4=0\/t % 4=1\/t % 4=2\/t % 4=3:=by omega
 exact⟨(q+4-t % 4) % 4,by omega,by omega⟩
def adi(R:Rm m G B)(h:B+46<=100000)(I:Bn m)(J:Su m)(hQ:∀i,i<7->Qt (m.rs i) (m.rs (i+1)))(hn:n<5)(Z:q<2)(hr:((m.aj n).bs q).F9=3)(he:((m.aj n).bs q).ep< (m.off.at q).ME):False:=by
 obtain⟨i,i1,i2⟩:=four (m.aj n).turn q Y;obtain⟨f1,W⟩:=LP R h I J hQ (i:=i) Y;obtain⟨f2,W'⟩:=LP R h I J hQ (i:=i+1) Y;obtain⟨f3,W''⟩:=LP R h I J hQ (i:=i+2) Y;have ho:=(win R h I J hQ i Y).off q Z;obtain⟨y,y1,y2,y3,y4,y5⟩:=(W.arr _ ((W.dut n hn q Z i2).ask hr)).ask E;have M:((m.rs i).off.at q).ME<=y.ep:=y5;have y3':y.tg=(n:Int):=y3;have O:y.q=q:=y4;rw[ho]at M;have h2:=(W'.arr y (W'.OM y y1)).jH Y;rw[show y.tg.toNat=n by omega]at h2;have h3:=W''.rep n hn y h2;rw[O]at h3;exact h3.lrn y2 hr Y
def akp(R:Rm m G B)(O:B+46<=100000)(Z:Bn m)(hS:Su m)(hQ:∀i,i<7->Qt (m.rs i) (m.rs (i+1)))(h:q<2)(hr:(vw m q (G q).o).F9=1)(he:(m.off.at q).ME≠((G q).m:Int)):False:=by
 have I:=R.qi q h;have J:=I.o5;have hV:=iC (q:=q) (R.up _ J);have hae:=I.vV;rw[hV]at hr hae;obtain⟨d,d1,d2,d3⟩:=I.dir;have hd:(m.off.at q).ME=d:=by rw[d1]
 have hnd:(m.off.at q).node=(((G q).own d:Nat):Int):=by rw[d1]
 have hml:=I.VE;have hcap:=R.cap q h;have aP8:=I.adj d d2 Y;obtain⟨i,i1,i2⟩:=four (m.aj (G q).o).turn q Y;obtain⟨f1,W⟩:=LP R O Z hS hQ (i:=i) Y;have ho:=(win R O Z hS hQ i Y).off q h;have ho':=(win R O Z hS hQ (i+1) Y).off q h;obtain⟨x,x1,x2,x3,x4,x5,x6,x7⟩:=(W.dut _ J q h i2).flp hr Y Y;have M:(G q).o=(G q).own (d+1):=by show(G q).own (G q).m=_;rw[show(G q).m=d+1 by omega]
 have:=(W.arr x x1).flp x4 Y Y (by rw[x5,ho];omega) (by rw[x5,ho,hnd,x7,M];omega) Y;rw[x5,ho,ho']at this;omega
def akq(R:Rm m G B)(hB:B+46<=100000)(hb:Bn m)(hS:Su m)(hQ:∀i,i<7->Qt (m.rs i) (m.rs (i+1)))(hq:q<2)(hr:(vw m q (G q).o).F9≠1):False:=by
 have I:=R.qi q hq;have O:=I.o5;have hV:=iC (q:=q) (R.up _ O);obtain⟨hdm,ht1,ht2,ht3⟩:=I.UJ hr;obtain⟨t,ht⟩:∃t:Nat,(vw m q (G q).o).tg=t:=⟨(vw m q (G q).o).tg.toNat,by omega⟩;have t5:t<5:=by omega
 have hto:t≠(G q).o:=by omega
 have hF:(FF m G q).R=1:=ah hr;have hFM:(FF m G q).M=(G q).m:=rfl;have hFt:(FF m G q).tg=(vw m q (G q).o).tg:=rfl;have ES:=I.ES;have hae:=I.vV;have hev:=I.yN;have hVt:=iC (q:=q) (R.up _ t5);have h:=I.oM t t5 hto;rw[hV]at hr ES hae hev ht;rw[hVt]at h;by_cases h3:((m.aj t).bs q).F9=3
 ·rcases h with⟨Z,_⟩|⟨k,_,k2,_,k4,_⟩|⟨_,Z,_⟩
  ·omega
  ·exact adi R hB hb hS hQ t5 hq h3 Y
  omega
 obtain⟨i,i1,i2⟩:=four (m.aj (G q).o).turn q Y;obtain⟨f1,W⟩:=LP R hB hb hS hQ (i:=i) Y;obtain⟨f2,W2⟩:=LP R hB hb hS hQ (i:=i+1) Y;obtain⟨f3,W3⟩:=LP R hB hb hS hQ (i:=i+2) Y;obtain⟨f4,W4⟩:=LP R hB hb hS hQ (i:=i+3) Y;obtain⟨x,x1,x2,x3,x4,x5,x6⟩:=(W.dut _ O q hq i2).off Y;have hx:=(W.arr x x1).jH Y;rw[show x.tg.toNat=t by omega]at hx;have J:=W2.rep t t5 x hx;rw[x5]at J;have hbt:((m.aj t).bs q).F9=4/\((m.aj t).bs q).ep=((G q).m:Int)+1/\((m.aj t).bs q).fr=(G q).o/\((m.aj t).bs q).Jp.length<=(G q).G.length:=by
  rcases h with⟨Z,h6,h7⟩|⟨k,Z,_⟩|⟨k,Z,h6,h7,h8,h9,_,h10,_⟩
  ·exact av (J.new x2 (.inl Z) Y) id
  ·omega
  by_cases c:k=(G q).m
  ·subst c;exact⟨Z,h6,h9,gB h10 (I.ZA h7 h8)⟩
  exact av (J.new x2 (.inr Z) Y) id
 obtain⟨b1,b2,b3,b4⟩:=hbt;obtain⟨y,y1,y2,y3,y4,y5,y6,y7⟩:=J.off x2 b1 Y Y;have hy:=(W2.arr y y1).jH Y;rw[show y.tg.toNat=(G q).o by omega]at hy;have hy':=W3.rep _ O y hy;rw[y5,x5]at hy';rw[<-hev]at b4;obtain⟨hc,z,z1,z2,z3,z4,z5,z6,z7,z8,z9⟩:=hy'.hav y2 Y Y Y Y;have hz:=(W3.arr z z1).jH Y;rw[show z.tg.toNat=t by omega]at hz;have hz':=W4.rep t t5 z hz;rw[z5,y5,x5]at hz';refine hz'.prt z2 hF (by rw[hFt,hV];omega) (by rw[hFM];omega) b1 Y Y Y ?_;rw[y7]at hc z8 z9;rw[fB]at z8 z9;by_cases c:((m.aj t).bs q).Jp.length< ((m.aj (G q).o).bs q).Jp.length
 ·left
  rw[z8];intro e;have:=bP length e;rw[eD,dO,length_nil]at this;omega
 right
 rw[z9]
 rcases hc with hc|hc
 ·exact ko ⟨hc,by omega⟩
 omega
end
section
variable {m m0 w m':Cl}{n q k B z r:Nat}{l x:bO}{G G0 G':Nat->Gh}{g g':Gh}{F F':Nat->Wy}{d:Nat}{p:dh}{b b':bC}{ac:Ac}{X:Nd}{rs us:List dN}
def aik:∀(a b:Nat),m.rs (a+b)=(m.rs a).rs b
 |_,0=>rfl
 |a,b+1=>by show(m.rs (a+b)).mo=((m.rs a).rs b).mo;rw[aik a b]
def TJ(k:Nat):m.rs (k+1)=m.mo.rs k:=by rw[qU,aik 1 k];rfl
def Sk(R:Rm m G B)(O:B+46<=100000)(I:Bn m)(Z:Su m):Su m.mo:=by
 have J:∀i,i<=5->Su (m.cu i):=by
  intro i
  induction i with
  |zero=>intro _;exact Z
  |succ i ih=>
   intro hi;obtain⟨G1,h,_⟩:=Gz R O I i Y;obtain⟨T,S,eZ,K,M⟩:=oW I i Y;exact TH (λq hq=>⟨_,h.qi q hq⟩) h.vd M Y (ih Y)
 obtain⟨G1,h,_⟩:=Gz R O I 5 aB;exact Zh (J 5 aB) h.vd
structure UA (m w:Cl)(G G':Nat->Gh)(B:Nat):Prop where
 rm:Rm w G' B
 bn:Bn w
 su:Su w
 zz:ZZ w (FF w G')=0
 le:∀q,q<2->nu (FF m G q) (FF w G' q)
def JV(J:B+46<=100000):∀(T:Nat) {w:Cl} {G':Nat->Gh},UA m w G G' B-> ∃G2,UA m (w.rs T) G G2 B
 | 0,_,_,h=>⟨_,h⟩
 |T+1,w,G',h=>by
  obtain⟨G2,I⟩:=JV J T h;obtain⟨M,Z,b3,W3,_,_,Z3⟩:=Ji I.rm J I.bn;have hz:=I.zz;refine⟨M,Z,b3,Sk I.rm J I.bn I.su,?_,λq O=>(I.le q O).trans (W3 q O)⟩
  show ZZ (w.rs T).mo (FF (w.rs T).mo M)=0
  rcases Z3 with⟨_,z,_⟩|⟨z,_⟩|z<;>omega
def LQ{f:bO->Nat}(I:∀x:bO,x.kd=6->f x=0){a:List bO}(h:∀x∈a,x.kd=6):eB f a=0:=Y8 λx J=>I x (h x J)
def aoS{c:Nat}(R:Rm m G B)(hr:∀q,q<2->(vw m q (G q).o).F9=1)(hd:∀q,q<2->(m.off.at q).ME=((G q).m:Int))(Z:∀q n,q<2->n<5->((m.aj n).bs q).F9=3->((m.aj n).bs q).ep< (m.off.at q).ME->False)
  (St:agl m w G B c) (RZ:w.ws bV=0) (asf:w.ws (fT (FF m G))=0) (h:∀n,n<5->(w.aj n).OO=none):∃G',UA m w G G' B:=by
 obtain⟨G7,R7,F7⟩:=St.rm;have hq0:∀q,q<2->qQ (FF m G q) (w.off.at q).ME (vq w q)=0:=λq O=>by
  have I:=R.qi q O;have hR:(FF m G q).R=0:=au (hr q O);have hM:(FF m G q).M=(G q).m:=rfl;have J:∀n,n<5->pI (FF m G q) (vq w q) n=0:=λn hn=>by
   unfold pI;rw[ah];rintro⟨c1,c2⟩;have e:vq w q n=(w.aj n).bs q:=by unfold vq;exact jV (h n hn)
   rw[e,(St.bs n hn q).F9]at c2;have PX:n≠(G q).o:=c1;have hdq:=hd q O
   rcases I.oM n hn PX with⟨h5,_⟩|⟨k,_,k2,_,k4,_⟩|⟨_,h5,_⟩
   ·rw[iC (R.up n hn)]at h5;omega
   ·rw[iC (R.up n hn)]at k2;exact Z q n O hn c2 Y
   rw[iC (R.up n hn)]at h5;omega
  unfold qQ Zg Om o5;rw[ah Y,St.off q O,hM,au (hd q O),J 0 dQ,J 1 dQ,J 2 dQ,J 3 dQ,J 4 dQ]
 refine⟨G7,R7,St.bn,St.su,?_,λq O=>by rw[F7 q O];exact .refl _⟩;rw[(oV R7.vd F7).2.2];have hp:(o5 λj=>sK (w.aj j).OO)=0:=by
  unfold o5;dsimp only;rw[h 0 dQ,h 1 dQ,h 2 dQ,h 3 dQ,h 4 dQ];rfl
 unfold ZZ PP;rw[RZ,asf,hq0 0 dQ,hq0 1 dQ,hp]
def win_zero(hk:k=7)(R:Rm m G B)(J:B+46<=100000)(M:Bn m)(O:Su m)(hQ:∀i,i<k->Qt (m.rs i) (m.rs (i+1))):∃G',UA m (m.rs k) G G' B:=by
 obtain⟨i,rfl⟩:∃i,k=i+1+1:=⟨k-2,by omega⟩;have I:∀j,j<7->Qt (m.rs j) (m.rs (j+1)):=λj hj=>hQ j Y;have hr:∀q,q<2->(vw m q (G q).o).F9=1:=λq Z=>GA λc=>akq R J M O I Z c;have hd:∀q,q<2->(m.off.at q).ME=((G q).m:Int):=λq Z=>GA λc=>akp R J M O I Z (hr q Z) c;obtain⟨f5,W5⟩:=LP R J M O hQ (i:=i) Y;obtain⟨f6,W6⟩:=LP R J M O hQ (i:=i+1) Y;have RZ:(m.rs (i+1+1)).ws bV=0:=by
  have h:=W6.dZ;rw[LQ Jc W5.k6]at h;omega
 have asf:(m.rs (i+1+1)).ws (fT (FF m G))=0:=by
  have h:=W6.Z8;rw[LQ Va W5.k6]at h;omega
 exact aoS R hr hd (λq n Z hn h3 he=>adi R J M O I hn Z h3 he) (win R J M O hQ (i+1+1) aB) RZ asf (hQ (i+1) Y).ase
def UA.from(h:UA m w G' G0 B)(J:∀q,q<2->nu (FF m0 G q) (FF m G' q)):UA m0 w G G0 B:=⟨h.rm,h.bn,h.su,h.zz,λq I=>(J q I).trans (h.le q I)⟩
def ayQ(J:B+46<=100000):∀(T:Nat) {m0:Cl} {G0 G:Nat->Gh} {r z:Nat},Rm m0 G0 B->Bn m0->Su m0->(∀i,i<r->Qt (m0.rs i) (m0.rs (i+1)))->r<=7->Rm (m0.rs r) G B->(∀q,q<2->FF (m0.rs r) G q=FF m0 G0 q)->
  (m0.rs r).ws (fT (FF m0 G0))=0->ZZ (m0.rs r) (FF m0 G0)<=z->z+7<=T+r-> ∃G',UA m0 ((m0.rs r).rs T) G0 G' B:=by
 intro T
 induction T with
 |zero=>
  intro m0 G0 G r z M b0 O hQ hr R F hst hz hT;obtain⟨G7,h⟩:=win_zero Y M J b0 O hQ;exact⟨G7,h⟩
 |succ T ih=>
  intro m0 G0 G r z M b0 O hQ hr R F hst hz hT;by_cases e:r=7
  ·obtain⟨G7,h⟩:=win_zero e M J b0 O hQ;exact JV J (T+1) h
  have St:=win M J b0 O hQ r aB;obtain⟨G1,R1,b1,W1',S1,P1,Z1⟩:=Ji R J St.bn;have s1:=Sk R J St.bn St.su;obtain⟨_,c2,c3⟩:=oV R.vd F;rw[TJ];have hW:∀q,q<2->nu (FF m0 G0 q) (FF (m0.rs r).mo G1 q):=λq Z=>by rw[<-F q Z];exact W1' q Z
  have I:∀ {z':Nat},ZZ (m0.rs r).mo (FF (m0.rs r).mo G1)<=z'->z'+7<=T-> ∃G',UA m0 ((m0.rs r).mo.rs T) G0 G' B:=λ{z'} h1 h2=>by
   obtain⟨G',h⟩:=ih (m0:=(m0.rs r).mo) (G0:=G1) (G:=G1) (r:=0) (z:=z') R1 b1 s1 (λi hi=>by omega) Y R1 (λ_ _=>E) (by show(m0.rs r).mo.ws _=0;omega) h1 Y;exact⟨G',h.from hW⟩
  rcases Z1 with⟨a1,a2,a3⟩|⟨a1,a2⟩|a1
  ·have F1:∀q,q<2->FF (m0.rs (r+1)) G1 q=FF m0 G0 q:=λq Z=>(a3 q Z).trans (F q Z);obtain⟨_,d2,d3⟩:=oV (m:=m0.rs (r+1)) R1.vd F1;obtain⟨G',h⟩:=ih (m0:=m0) (G0:=G0) (G:=G1) (r:=r+1) (z:=z) M b0 O (λi hi=>by
    by_cases e2:i=r
    ·subst e2;exact a1
    exact hQ i Y) Y R1 F1 (by
    have e5:(m0.rs (r+1)).ws (fT (FF (m0.rs (r+1)) G1))<=(m0.rs r).ws (fT (FF (m0.rs r) G)):=S1;omega) (by
    have e5:ZZ (m0.rs (r+1)) (FF (m0.rs (r+1)) G1)<=ZZ (m0.rs r) (FF (m0.rs r) G):=a2;omega) Y
   exact⟨G',h⟩
  ·rcases a2 with⟨n,n5,a2⟩|a2
   ·have er:r=0:=by
     cases r with
     |zero=>rfl
     |succ r=>exact av ((hQ r Y).ase n n5) a2
    exact I (z':=z-1) Y Y
   omega
  exact I (z':=z-7) Y Y
def aH0(I:B+46<=100000):∀(T:Nat) {m:Cl} {G:Nat->Gh} {z:Nat},Rm m G B->Bn m->Su m->eB (fT (FF m G)) m.OM=0->ZZ m (FF m G)<=z->z+8<=T-> ∃G',UA m (m.rs T) G G' B:=by
 intro T
 induction T with
 |zero=>intro m G z _ _ _ _ _ h;omega
 |succ T ih=>
  intro m G z R O Z hf hz hT;by_cases c:m.ws (fT (FF m G))=0
  ·exact ayQ I (T+1) (m0:=m) (G0:=G) (G:=G) (r:=0) (z:=z) R O Z (λi hi=>by omega) Y R (λ_ _=>E) c hz Y
  obtain⟨G1,J,b1,W1',S1,P1,Z1⟩:=Ji R I O;have s1:=Sk R I O Z;have M:eB (fT (FF m.mo G1)) m.mo.OM=0:=LQ Va Zj;rw[TJ]
  rcases Z1 with⟨a1,a2,a3⟩|⟨a1,a2⟩|a1
  ·obtain⟨fl,G2,R2,F2,b2,s2,q2⟩:=JU R I O Z a1;have h0:=q2.Z8;obtain⟨_,d2,d3⟩:=oV (m:=m.mo) J.vd a3;obtain⟨G',h⟩:=ayQ I T (m0:=m.mo) (G0:=G1) (G:=G1) (r:=0) (z:=z) J b1 s1 (λi hi=>by omega) Y J (λ_ _=>E) (by show m.mo.ws _=0;omega) (by show ZZ m.mo _<=z;omega) Y;exact⟨G',h.from W1'⟩
  ·obtain⟨G',h⟩:=ih (m:=m.mo) (G:=G1) (z:=z-1) J b1 s1 M Y Y;exact⟨G',h.from W1'⟩
  obtain⟨G',h⟩:=ih (m:=m.mo) (G:=G1) (z:=z-1) J b1 s1 M Y Y;exact⟨G',h.from W1'⟩
def asg(I:B+46<=100000){T:Nat}(R:Rm m G B)(J:Bn m)(M:Su m)(hT:ZZ m (FF m G)+9<=T):∃G',UA m (m.rs T) G G' B:=by
 obtain⟨T,rfl⟩:∃k,T=k+1:=⟨T-1,by omega⟩;obtain⟨G1,O,b1,W1',S1,P1,Z⟩:=Ji R I J;rw[TJ];obtain⟨G',h⟩:=aH0 I T (m:=m.mo) (G:=G1) (z:=ZZ m (FF m G)) O b1 (Sk R I J M) (LQ Va Zj) (by rcases Z with⟨_,z,_⟩|⟨z,_⟩|z<;>omega) Y;exact⟨G',h.from W1'⟩
def yo(V:Nat->bC)(g:Gh)(n:Nat):Nat:=if n≠g.o/\(V n).F9=3 then 1 else 0
def yq(V:Nat->bC)(g:Gh):Nat:=g.G.length+o5 (yo V g)+2*(if (V g.o).F9=1 then 0 else 1)
def Po(I:QI m q g)(I':QI m' q g')(N:g.m<=g'.m)(hn:n<5)(Z:vw m' q=PN (vw m q) n b')
  (h1:n=g.o->b'.ep=(vw m q n).ep/\(b'.F9=1\/b'.F9=2\/b'.F9=3)/\b'.Jp.length<=(vw m q n).Jp.length+d/\((vw m q n).F9=1->b'.F9=1))
  (h2:n≠g.o->b'.F9=0\/b'.F9=4\/(b'.F9=3/\b'.ep<g.m/\(vw m q n).F9=3)\/(b'.F9=1/\b'.ep=(g.m:Int)+1/\(vw m q g.o).F9≠1/\b'.Jp.length=g.G.length+1)):yq (vw m' q) g'<=yq (vw m q) g+d:=by
 have o5':=I'.o5;have oo:=I.o5;have O:=I'.vV;have J:=I'.yN;have M:=I'.ES;have hm:=N;have keep:g'.o≠n->g'.o=g.o:=λe=>by
  rw[Z,Ox e]at O M;exact I.top o5' M Y
 by_cases c:n=g.o
 ·obtain⟨a1,a2,a3,a4⟩:=h1 c;subst c;have eV:vw m' q g.o=b':=by rw[Z,Jo]
  have eo:g'.o=g.o:=by
   by_cases e:g'.o=g.o
   ·exact e
   exact keep e
  have hG:g'.G.length=b'.Jp.length:=by rw[<-J,eo,eV]
  have hG0:g.G.length=(vw m q g.o).Jp.length:=by rw[I.yN]
  have hy:o5 (yo (vw m' q) g')=o5 (yo (vw m q) g):=Ce λj _=>by
   unfold yo;rw[eo];by_cases e:j=g.o
   ·rw[e,ah (λc=>c.1 E),ah (λc=>c.1 E)]
   rw[Z,Ox e]
  unfold yq;rw[hy,eo,eV];by_cases c1:(vw m q g.o).F9=1
  ·rw[au c1,au (a4 c1)];omega
  rw[ah c1];split<;>omega
 have eVo:vw m' q g.o=vw m q g.o:=by rw[Z,Ox (λe=>c e.symm)]
 by_cases e:g'.o=n
 ·rw[e]at O J M;rw[Z,Jo]at O J M
  rcases h2 c with h|h|⟨_,h,_⟩|⟨k1,k2,k3,k5⟩
  ·omega
  ·omega
  ·omega
  have hG:g'.G.length=g.G.length+1:=by rw[<-J,k5]
  have hy:o5 (yo (vw m' q) g')<=o5 (yo (vw m q) g)+1:=by
   refine U8 oo (λj hj=>?_) ?_
   ·unfold yo;by_cases ej:j=n
    ·rw[ah (λc=>c.1 (ej.trans e.symm))];exact aG _
    rw[Z,Ox ej]
    split
    ·rename_i c3
     rw[au ⟨hj,c3.2⟩];exact aB
    exact aG _
   unfold yo;split<;>omega
  have hR:(vw m' q g'.o).F9=1:=by rw[e,Z,Jo];exact k1
  unfold yq;rw[au hR,ah k3];omega
 have eo:=keep e;have hG:g'.G.length=g.G.length:=by rw[<-J,eo,eVo,I.yN]
 have hy:o5 (yo (vw m' q) g')<=o5 (yo (vw m q) g)+0:=by
  refine U8 hn (λj hj=>?_) ?_
  ·unfold yo;rw[eo,Z,Ox hj];exact aB
  unfold yo;rw[eo,Z,Jo]
  split
  ·rename_i c3
   rcases h2 c with h|h|⟨_,_,h⟩|⟨h,_⟩
   ·omega
   ·omega
   ·rw[au ⟨c,h⟩];exact aB
   omega
  exact aG _
 unfold yq;rw[eo,eVo];omega
def agW(I:QI m q g)(I':QI m' q g')(N:g.m<=g'.m)(hn:n<5)(M:vw m' q=PN (vw m q) n b')(s:Sm b' (vw m q n)):yq (vw m' q) g'<=yq (vw m q) g:=by
 refine Po (d:=0) I I' N hn M (λe=>?_) λe=>?_
 ·have:=I.ES;rw[<-e,<-s.F9]at this;exact⟨s.ep,this,by rw[s.Jp];exact aB,λh=>by rw[s.F9];exact h⟩
 rcases I.oM n hn e with⟨O,_⟩|⟨k,J,Z,k3,k4,_⟩|⟨k,J,_⟩
 ·exact .inl (by rw[s.F9];exact O)
 ·exact .inr (.inr (.inl ⟨by rw[s.F9];exact J,by rw[s.ep];omega,J⟩))
 exact .inr (.inl (by rw[s.F9];exact J))
def aoT(I:QI m q g)(I':QI m' q g')(N:g.m<=g'.m)(hn:n<5)(hu:(m.aj n).up=true)(hp:(m.aj n).OO=some p)(hq:p.q=q)(hV:vw m' q=PN (vw m q) n b')(J:b'=p.b (m.aj n).bs\/b'=kU (p.b (m.aj n).bs)):yq (vw m' q) g'<=yq (vw m q) g+vC (some p):=by
 have O:=iC (q:=q) hu;have hpv:Cc m q n=some p:=by unfold Cc;rw[hp];exact Pj hq
 obtain⟨_,hk⟩:=I.nQ n hn p hpv
 cases p with
 |serve k Jp op num a=>
  have e:k=q:=hq;subst e;obtain⟨k1,k2,k3,_⟩:=hk;have hd:vC (some (dh.serve k Jp op num a))=1:=rfl;rw[hd];have hbe:b'.ep=((m.aj n).bs k).ep/\(b'.F9=1\/b'.F9=2\/b'.F9=3)/\b'.Jp=Jp/\(((m.aj n).bs k).F9=1->b'.F9=1):=by
   rw[O]at k2;unfold Qc at k2
   rcases J with J|J
   ·rw[J];exact⟨E,by show((m.aj n).bs k).F9=1\/((m.aj n).bs k).F9=2\/((m.aj n).bs k).F9=3;omega,E,λh=>h⟩
   rw[J];unfold kU
   split
   ·exact⟨E,.inl E,E,λ_=>E⟩
   rename_i c
   exact⟨E,by show((m.aj n).bs k).F9=1\/((m.aj n).bs k).F9=2\/((m.aj n).bs k).F9=3;omega,E,λh=>h⟩
  obtain⟨e1,e2,e3,e4⟩:=hbe;refine Po I I' N hn hV (λe=>⟨by rw[O];exact e1,e2,?_,by rw[O];exact e4⟩) λe=>av k1 e;rw[e3,k3,e,I.yN,aZ,l8];exact aB
 |P8 k x=>
  obtain⟨j,j1,Z,j3,j4,j5⟩:=hk;have PX:=I.rW j4;have M:b'=x:=by
   rcases J with J|J
   ·exact J
   rw[J];show kU x=x;exact sW (by rw[j1];show(4:Int)≠2;decide)
  exact Po I I' N hn hV (λh=>av h PX) λ_=>.inr (.inl (by rw[M,j1]))
 |T9 k x last=>
  obtain⟨k1,k2,k3⟩:=hk;have PX:n≠g.o:=I.rW (.inr k1);refine Po I I' N hn hV (λh=>av h PX) λ_=>?_
  cases last with
  |true=>
   obtain⟨a1,a2,a3,a4,a5⟩:=k3 E;have M:b'=x:=by
    rcases J with J|J
    ·exact J
    rw[J];show kU x=x;exact sW (by rw[a4];show(1:Int)≠2;decide)
   refine .inr (.inr (.inr ⟨by rw[M,a4],by rw[M,a4],by omega,?_⟩));rw[M,a4];show(g.G++[bg]).length=_;simp
  |false=>
   obtain⟨j,a1,_⟩:=k2 E;have hr:x.F9=4:=by rw[a1];exact k1
   have M:b'=x:=by
    rcases J with J|J
    ·exact J
    rw[J];show kU x=x;exact sW Y
   exact .inr (.inl (by rw[M];exact hr))
 |gy k x a=>
  obtain⟨ho,j1,Z⟩:=hk;have M:b'=x:=by
   rcases J with J|J
   ·exact J
   rw[J];show kU x=x;exact sW (by rw[Z];show(3:Int)≠2;decide)
  refine Po I I' N hn hV (λ_=>?_) λh=>av ho h;rw[M,Z];exact⟨E,.inr (.inr E),oK _ _,λh=>by omega⟩
 |P5 k x=>
  obtain⟨j1,Z,j3⟩:=hk;have M:b'=x:=by
   rcases J with J|J
   ·exact J
   rw[J];show kU x=x;exact sW (by rw[Z];show(0:Int)≠2;decide)
  exact Po I I' N hn hV (λh=>by have:=I.vV;rw[<-h]at this;omega) λ_=>.inl (by rw[M,Z])
end
end Go.Proofs.YtefabpdniidmbaaGreatDoor
