import Derived.Test.YtefabpdniidmbaaGreatDoorG40da4
import Derived.Test.YtefabpdniidmbaaGreatDoorGa7175
set_option linter.all false
set_option maxRecDepth 100000
set_option maxHeartbeats 8000000
namespace Go.Proofs.YtefabpdniidmbaaGreatDoor
open List Nat Go.Proofs.Tryz ChangeShapes WideShapes RowKit
section
section
variable {m:Cl}{n:Nat}{X:Nd}{l:bO}{PW:Pl×Int}
def aj1(h:l.tg= -1):m.P6 l={m with bQ:=m.bQ++[l.bQ]}:=au h
def uS(h:l.tg= -2)(I:aN (eu m.off l) l.q=PW)(J:PW.2=0):m.P6 l={m with off:=eu m.off l,OM:=m.OM++[mE l.fr l.q PW.1]}:=by
 unfold Cl.P6;rw[ah Y,au h,I,au J]
def uT(h:l.tg= -2)(I:aN (eu m.off l) l.q=PW)(J:¬PW.2=0):m.P6 l={m with off:=eu m.off l}:=by
 unfold Cl.P6;rw[ah Y,au h,I,ah J]
def afT(h:l.tg=(n:Int))(I:m.aj n=X)(J:X.up=true):m.P6 l=m.put n (X.box (X.Mv++[l])):=by
 subst I;unfold Cl.P6;rw[ah Y,ah Y,h,fB,au J];rfl
def afU(h:l.tg=(n:Int))(I:m.aj n=X)(J:X.up=false):m.P6 l=m:=by
 subst I;unfold Cl.P6;rw[ah Y,ah Y,h,fB,ah (by rw[J];simp)]
def fF.aAz{K:CK}{L:List OJ}{c:Nat}{z:NX}{A:Option Addr}{x:LX}(h:fF K L n X z)(I:UN L x):fF K L n (X.box (X.Mv++[x.l])) {z with iA:=A,ic:=c,ix:=z.ix++[x]}:=
 ⟨h.UO,h.Wu,h.Al,by rw[iP,h.ixm];rfl,λu J=>(aP.1 J).elim (h.ixo u) λe=>by rw[aF]at e;subst e;exact I,h.nQ⟩
end
def FU{K:CK}{B n kn kw:Nat}{w0 w:World}{fs:List OJ}{m:Cl}{H:List LX}{x:LX}(hn:n<5)(O:K.nb n=kn)(Z:K.wb=kw)(hu:Uk B w0)(hB1:m.OM.length<=1000000000)(hB2:m.bQ.length<=1000000000000)(hB3:(m.aj n).Mv.length<=1000000000)(HW:Wd K B w0 w fs m (x::H))(J:x.l.tg= -1\/x.l.tg= -2\/x.l.tg=(n:Int)):
 Calls prog 35 #[.pointer (some ⟨kw,0,none⟩),.agg (LX.row x)] w (λe w'=>e=.returned (.tuple #[])/\Wd K B w0 w' fs (m.P6 x.l) H):=by
 obtain⟨R,G,S0⟩:=HW.open hn;have hfl:R.fx.length=m.OM.length:=by rw[<-G.OM,iE]
 have NG:=G.jH n hn;obtain⟨X,hX⟩:∃X,m.aj n=X:=⟨_,E⟩;obtain⟨z,hz⟩:∃z,R.nx n=z:=⟨_,E⟩;rw[hX,hz]at S0 NG;have hL:∀f∈R.L,f∈iW K R m fs n:=λf h=>aK _ (aK _ h);obtain⟨rr,hrr⟩:∃r,iW K R m fs n=r:=⟨_,E⟩;rw[hrr]at S0 hL;have S:St B w0 w ((.Oy kn (eP n X.up (.slice z.tA X.data.length z.tc) X.OY (.slice (some ⟨z.bb,0,none⟩) 4 4) X.PS X.PZ (.slice z.iA z.ix.length z.ic) (z.pv) X.turn) 105)::(.own 42 6 (.slice (some ⟨z.bb,0,none⟩) 4 4) 4 ((z.bx).flatMap BX.cells))::(fL z.iA z.ix z.ic)::(bW kw (.slice R.nA 5 R.nc) m.off R.fA R.fx R.fc m.PU R.sA m.bG R.sc R.tA m.bQ R.tc m.calls)::(oL R.fA R.fx R.fc)::(oS R.sA m.bG R.sc)::(oT R.tA m.bQ R.tc)::rr):=by subst O;subst Z;exact S0
 clear S0 HW;have hlen:=(S.own 1 E).1;rw[jI (sz:=6) (λ_=>E)]at hlen;obtain⟨ab,ao,uf⟩:=Ew G.arr S (PO 7 E hL);have harr:=G.arr;rw[uf]at S harr;have aPs:z.ix.length<=1000000000:=by have:=bP length NG.ixm;rw[iE]at this;rw[hX]at hB3;omega
 refine jc 106 func35 ?_;refine cw [0,1] ?_;refine zN 2 ?_;refine jT S ?_;intro b1 w2 S3;refine zN 4 ?_
 rcases J with J|J|J
 ·refine zN 8 ?_;have S4:=S3.drew;refine gV 14 10 S4 [7] ?_;iterate 5 refine ji ?_
  refine gk (v:=.slice R.tA m.bQ.length R.tc) 5 E (St.del 7 S4) (λ_ aGH=>(aA E E (aV (St.cl 4 aGH E az4)))) ?_;refine ji ?_;refine gk (v:=.agg #[D x.l.bQ.num,D x.l.bQ.Ut.code,D x.l.bQ.Ut.iD,D x.l.bQ.Ut.PX,D x.l.bQ.Ut.body,D x.l.bQ.pl.node,D x.l.bQ.pl.ME]) 7 E (St.del 7 S4) (λ_ arX=>(aA E E (fu (cs:=[D x.l.bQ.num,D x.l.bQ.Ut.code,D x.l.bQ.Ut.iD,D x.l.bQ.Ut.PX,D x.l.bQ.Ut.body,D x.l.bQ.pl.node,D x.l.bQ.pl.ME]) (St.rg 0 arX E (auQ))))) ?_;refine gI (m:=5) (r:=8) kQ ?_;refine o8 (i:=8) E E (V:=λb=>.slice (some ⟨b,0,none⟩) 1 1) (row:= #[D x.l.bQ.num,D x.l.bQ.Ut.code,D x.l.bQ.Ut.iD,D x.l.bQ.Ut.PX,D x.l.bQ.Ut.body,D x.l.bQ.pl.node,D x.l.bQ.pl.ME]) (t:=56) S4 (wn E) E E (bD (vs:=[(0,.agg #[D x.l.bQ.num,D x.l.bQ.Ut.code,D x.l.bQ.Ut.iD,D x.l.bQ.Ut.PX,D x.l.bQ.Ut.body,D x.l.bQ.pl.node,D x.l.bQ.pl.ME])]) E zL kQ) ?_;intro b13 Py kP;refine ji ?_;refine gI (m:=4) (r:=9) kQ ?_;refine nG (i:=9) E E (news:=[D x.l.bQ.num,D x.l.bQ.Ut.code,D x.l.bQ.Ut.iD,D x.l.bQ.Ut.PX,D x.l.bQ.Ut.body,D x.l.bQ.pl.node,D x.l.bQ.pl.ME]) (xs':=(m.bQ++[x.l.bQ]).flatMap tZ.cells) 8 kP (wn E) E E E E E E (St.nP (xs:=[D x.l.bQ.num,D x.l.bQ.Ut.code,D x.l.bQ.Ut.iD,D x.l.bQ.Ut.PX,D x.l.bQ.Ut.body,D x.l.bQ.pl.node,D x.l.bQ.pl.ME]) 0 kP E E E) underlying33 atp E dQ (dx E) lQ Y (jO (enc:=tZ.cells) E E) ?_;intro A16 c17 Pq axz axA xg;refine ji ?_;refine gF kQ E E E ?_;refine zN 3 ?_;refine kZ 5 xg kQ ?_ (hs:=by exact az6);intro w22 xq;refine zQ ?_;refine kC ?_;refine dG (l':=[]) trivial (jE (q9 ?_));have l7:=xq.bq [1,0];rw[<-uf]at l7;have Zb:m.bQ.length+1=(m.bQ++[x.l.bQ]).length:=by simp
  rw[Zb]at l7;rw[aj1 J];exact⟨E,Wd.fq (X':=X) (z':=z) (Ls:=[]) (fA:=R.fA) (fc:=R.fc) (fx:=R.fx) (sA:=R.sA) (sc:=R.sc) (tA:=A16) (tc:=c17) O Z hrr G hn l7 NG.more (λu hu=>.inl hu) (aJ hX).symm G.OM.symm mH⟩
 ·refine zN 22 ?_;by_cases xu:0<=x.l.nd
  ·refine zN 4 ?_;obtain⟨FD,Mw⟩:∃r,yI m.off x.l.q x.l.ep x.l.nd=r:=⟨_,E⟩;have HF:=λw h=>aa2 m.off x.l.q x.l.ep x.l.nd w h;rw[Mw]at HF;refine zQ ?_;have vK:=S3.drew;refine aU 17 vK [] ?_;refine aW 3 ?_;refine ak (v:=.agg ((m.off.cells).toArray)) 3 E vK (λ_ afg=>(aA E E (fu (cs:=(m.off.cells)) (St.rg 4 afg E (Ak))))) ?_;refine aW 6 ?_;refine gL (n:=6) (r:=10) (s:=14) kQ ?_ ?_
   ·refine ku 10 E eQ (HF _ (Uk.nw hu vK)) ?_;rintro _ w37 ⟨rfl,aGI⟩;refine⟨_,E,?_⟩;have CS:=vK.on aGI;refine aW 4 ?_;refine bJ 14 ?_;refine nT 14 E CS akB ?_;intro b43 Un tC;refine dI ?_;refine bJ 15 ?_;refine YL 15 E 0 tC kQ ?_ (h1:=yD _);intro w46 BS;refine aW 3 ?_;refine zN 4 ?_;by_cases h49:FD.2=0
    ·refine zN 9 ?_;refine kZ 5 BS kQ ?_ (h1:=yD _) (hs:=by exact arn);intro YO yK;refine zN 2 ?_;obtain⟨PW,M⟩:∃r,aN FD.1 x.l.q=r:=⟨_,E⟩;have HQ:=λw h=>qz FD.1 x.l.q w h;rw[M]at HQ;refine zQ ?_;have qO:=yK.drew;refine aU 13 qO [] ?_;refine aW 3 ?_;refine ak (v:=.agg (((FD.1).cells).toArray)) 3 E qO (λ_ afc=>(aA E E (fu (cs:=((FD.1).cells)) (St.rg 5 afc E (Ak))))) ?_;refine aW 2 ?_;refine gL (n:=6) (r:=6) (s:=10) kQ ?_ ?_
     ·refine ku 6 E eQ (HQ _ (Uk.nw hu qO)) ?_;rintro _ w59 ⟨rfl,aGJ⟩;refine⟨_,E,?_⟩;have YV:=qO.on aGJ;refine aW 4 ?_;refine bJ 10 ?_;refine nT 10 E YV Ju ?_;intro b65 YP wZ;refine dI ?_;refine bJ 11 ?_;refine sn 11 E 0 wZ kQ ?_;intro w68 CQ;refine aW 3 ?_;refine zN 4 ?_;by_cases h71:PW.2=0
      ·refine zN 14 ?_;refine vv (v:=.agg #[D 6,D (-2),D x.l.fr,D (x.l.q:Int),D PW.1.ME,D 0,D PW.1.node,D 0,D 0,D 0,D 0,D 0,D 0,.slice none 0 0,.bool false,D 0,D 0,D 0,D 0,D 0,D 0,D 0,D 0]) iJ ?_;have IB:=CQ.fC [7,7];refine dZ eQ (jl (x:=⟨mE x.l.fr x.l.q PW.1,none,0⟩) IB Y) ?_;rintro _ w77 ⟨rfl,A73,c74,aGK,ayk,Mf⟩;refine⟨_,E,?_⟩;refine zQ ?_;refine dG (l':=[]) trivial (jE (q9 ?_));have Fu:=Mf.bq [4,3,2];have Eh:=Fu.fC [6,6,3,3,6,6,6];rw[<-uf]at Eh;have I:eu m.off x.l=FD.1:=by
        unfold eu;rw[Mw,au Y]
       rw[uS (PW:=PW) J (by rw[I];exact M) ‹_›,I];exact⟨E,Wd.fq (X':=X) (z':=z) (Ls:=[]) (fA:=A73) (fc:=c74) (fx:=aGK) (sA:=R.sA) (sc:=R.sc) (tA:=R.tA) (tc:=R.tc) O Z hrr G hn Eh NG.more (by rw[ayk];exact rC (kr E)) (aJ hX).symm (by rw[ayk,iP,G.OM];rfl) mH⟩
      refine zN 7 ?_;have yw:=CQ.bq [2,1,0];rw[<-uf]at yw;have I:eu m.off x.l=FD.1:=by
       unfold eu;rw[Mw,au Y]
      rw[uT (PW:=PW) J (by rw[I];exact M) ‹_›,I];exact⟨E,Wd.fq (X':=X) (z':=z) (Ls:=[]) (fA:=R.fA) (fc:=R.fc) (fx:=R.fx) (sA:=R.sA) (sc:=R.sc) (tA:=R.tA) (tc:=R.tc) O Z hrr G hn yw NG.more (λu hu=>.inl hu) (aJ hX).symm G.OM.symm mH⟩
     refine nT 10 E qO Ju ?_;intro b82 w83 IG;refine dI ?_;refine bJ 6 ?_;refine ku 6 E eQ (HQ _ (Uk.nw hu IG)) ?_;rintro _ w85 ⟨rfl,awZ⟩;refine⟨_,E,?_⟩;have Ei:=IG.on awZ;refine aW 4 ?_;refine bJ 11 ?_;refine sn 11 E 0 Ei kQ ?_;intro w91 BQ;refine aW 3 ?_;refine zN 4 ?_;by_cases h94:PW.2=0
     ·refine zN 14 ?_;refine vv (v:=.agg #[D 6,D (-2),D x.l.fr,D (x.l.q:Int),D PW.1.ME,D 0,D PW.1.node,D 0,D 0,D 0,D 0,D 0,D 0,.slice none 0 0,.bool false,D 0,D 0,D 0,D 0,D 0,D 0,D 0,D 0]) iJ ?_;have NV:=BQ.fC [7,7];refine dZ eQ (jl (x:=⟨mE x.l.fr x.l.q PW.1,none,0⟩) NV Y) ?_;rintro _ akL ⟨rfl,A96,c97,aGL,ayl,yV⟩;refine⟨_,E,?_⟩;refine zQ ?_;refine dG (l':=[]) trivial (jE (q9 ?_));have wh:=yV.bq [4,3,2];have xX:=wh.fC [6,6,3,3,6,6,6];rw[<-uf]at xX;have I:eu m.off x.l=FD.1:=by
       unfold eu;rw[Mw,au Y]
      rw[uS (PW:=PW) J (by rw[I];exact M) ‹_›,I];exact⟨E,Wd.fq (X':=X) (z':=z) (Ls:=[]) (fA:=A96) (fc:=c97) (fx:=aGL) (sA:=R.sA) (sc:=R.sc) (tA:=R.tA) (tc:=R.tc) O Z hrr G hn xX NG.more (by rw[ayl];exact rC (kr E)) (aJ hX).symm (by rw[ayl,iP,G.OM];rfl) mH⟩
     refine zN 7 ?_;have Bu:=BQ.bq [2,1,0];rw[<-uf]at Bu;have I:eu m.off x.l=FD.1:=by
      unfold eu;rw[Mw,au Y]
     rw[uT (PW:=PW) J (by rw[I];exact M) ‹_›,I];exact⟨E,Wd.fq (X':=X) (z':=z) (Ls:=[]) (fA:=R.fA) (fc:=R.fc) (fx:=R.fx) (sA:=R.sA) (sc:=R.sc) (tA:=R.tA) (tc:=R.tc) O Z hrr G hn Bu NG.more (λu hu=>.inl hu) (aJ hX).symm G.OM.symm mH⟩
    refine zN 6 ?_;obtain⟨PW,M⟩:∃r,aN m.off x.l.q=r:=⟨_,E⟩;have HQ:=λw h=>qz m.off x.l.q w h;rw[M]at HQ;refine qb (X:=Nat) (λxv=>[(0,.pointer (some ⟨kw,0,none⟩)),(3,.pointer (some ⟨b1,0,none⟩)),(6,.pointer (some ⟨xv,0,none⟩)),(7,D PW.2)]) (λxv wr=>St B w0 wr ((.Oy xv #[D PW.1.node,D PW.1.ME] 27)::(.Oy b43 (((FD.1).cells).toArray) 30)::(.Oy b1 (LX.row x) 119)::(.Oy kn (eP n X.up (.slice z.tA X.data.length z.tc) X.OY (.slice (some ⟨z.bb,0,none⟩) 4 4) X.PS X.PZ (.slice z.iA z.ix.length z.ic) (z.pv) X.turn) 105)::(.own 42 6 (.slice (some ⟨z.bb,0,none⟩) 4 4) 4 ((z.bx).flatMap BX.cells))::(fL z.iA z.ix z.ic)::(bW kw (.slice (some ⟨ab,ao,none⟩) 5 R.nc) m.off R.fA R.fx R.fc m.PU R.sA m.bG R.sc R.tA m.bQ R.tc m.calls)::(oL R.fA R.fx R.fc)::(oS R.sA m.bG R.sc)::(oT R.tA m.bQ R.tc)::rr)) ?_ ?_
    ·have vH:=BS.drew;refine aU 13 vH [] ?_;refine aW 3 ?_;refine ak (v:=.agg ((m.off.cells).toArray)) 3 E vH (λ_ aAA=>(aA E E (fu (cs:=(m.off.cells)) (St.rg 5 aAA E (Ak))))) ?_;refine aW 2 ?_;refine gL (n:=6) (r:=6) (s:=10) kQ ?_ ?_
     ·refine ku 6 E eQ (HQ _ (Uk.nw hu vH)) ?_;rintro _ aes ⟨rfl,aAB⟩;refine⟨_,E,?_⟩;have xW:=vH.on aAB;refine aW 4 ?_;refine bJ 10 ?_;refine nT 10 E xW Ju ?_;intro aGM awi xk;refine dI ?_;refine bJ 11 ?_;refine sn 11 E 0 xk kQ ?_;intro aeI E5;refine aW 3 ?_;refine eO aGM ?_ lU;exact E5
     refine nT 10 E vH Ju ?_;intro aGN aq3 zU;refine dI ?_;refine bJ 6 ?_;refine ku 6 E eQ (HQ _ (Uk.nw hu zU)) ?_;rintro _ ad9 ⟨rfl,agQ⟩;refine⟨_,E,?_⟩;have E8:=zU.on agQ;refine aW 4 ?_;refine bJ 11 ?_;refine sn 11 E 0 E8 kQ ?_;intro aeh Cx;refine aW 3 ?_;refine eO aGN ?_ lU;exact Cx
    rintro aGO av7 GZ
    try dsimp only at GZ
    refine cB (l':=[(0,.pointer (some ⟨kw,0,none⟩)),(3,.pointer (some ⟨b1,0,none⟩)),(6,.pointer (some ⟨aGO,0,none⟩)),(7,D PW.2)]) lU (bH (aL (vm ?_)));by_cases aPt:PW.2=0
    ·refine zN 14 ?_;refine vv (v:=.agg #[D 6,D (-2),D x.l.fr,D (x.l.q:Int),D PW.1.ME,D 0,D PW.1.node,D 0,D 0,D 0,D 0,D 0,D 0,.slice none 0 0,.bool false,D 0,D 0,D 0,D 0,D 0,D 0,D 0,D 0]) iJ ?_;have Jz:=GZ.fC [7,7];refine dZ eQ (jl (x:=⟨mE x.l.fr x.l.q PW.1,none,0⟩) Jz Y) ?_;rintro _ aD0 ⟨rfl,akH,akI,aAC,aqf,Vk⟩;refine⟨_,E,?_⟩;refine zQ ?_;refine dG (l':=[]) trivial (jE (q9 ?_));have Vl:=Vk.bq [4,3,2];have QH:=Vl.fC [6,6,3,3,6,6,6];rw[<-uf]at QH;have I:eu m.off x.l=m.off:=by
      unfold eu
      first|rw[Mw,ah Y]|rw[ah Y]
     rw[uS (PW:=PW) J (by rw[I];exact M) ‹_›,I];exact⟨E,Wd.fq (X':=X) (z':=z) (Ls:=[]) (fA:=akH) (fc:=akI) (fx:=aAC) (sA:=R.sA) (sc:=R.sc) (tA:=R.tA) (tc:=R.tc) O Z hrr G hn QH NG.more (by rw[aqf];exact rC (kr E)) (aJ hX).symm (by rw[aqf,iP,G.OM];rfl) mH⟩
    refine zN 7 ?_;have Cy:=GZ.bq [2,1,0];rw[<-uf]at Cy;have I:eu m.off x.l=m.off:=by
     unfold eu
     first|rw[Mw,ah Y]|rw[ah Y]
    rw[uT (PW:=PW) J (by rw[I];exact M) ‹_›,I];exact⟨E,Wd.fq (X':=X) (z':=z) (Ls:=[]) (fA:=R.fA) (fc:=R.fc) (fx:=R.fx) (sA:=R.sA) (sc:=R.sc) (tA:=R.tA) (tc:=R.tc) O Z hrr G hn Cy NG.more (λu hu=>.inl hu) (aJ hX).symm G.OM.symm mH⟩
   refine nT 14 E vK akB ?_;intro aym aGP K9;refine dI ?_;refine bJ 10 ?_;refine ku 10 E eQ (HF _ (Uk.nw hu K9)) ?_;rintro _ axW ⟨rfl,aAD⟩;refine⟨_,E,?_⟩;have OT:=K9.on aAD;refine aW 4 ?_;refine bJ 15 ?_;refine YL 15 E 0 OT kQ ?_ (h1:=yD _);intro awo QK;refine aW 3 ?_;refine zN 4 ?_;by_cases aPu:FD.2=0
   ·refine zN 9 ?_;refine kZ 5 QK kQ ?_ (h1:=yD _) (hs:=by exact arn);intro aPv ZE;refine zN 2 ?_;obtain⟨PW,M⟩:∃r,aN FD.1 x.l.q=r:=⟨_,E⟩;have HQ:=λw h=>qz FD.1 x.l.q w h;rw[M]at HQ;refine qb (X:=Nat) (λxv=>[(0,.pointer (some ⟨kw,0,none⟩)),(3,.pointer (some ⟨b1,0,none⟩)),(6,.pointer (some ⟨xv,0,none⟩)),(7,D PW.2)]) (λxv wr=>St B w0 wr ((.Oy xv #[D PW.1.node,D PW.1.ME] 27)::(.Oy aym (((FD.1).cells).toArray) 30)::(.Oy b1 (LX.row x) 119)::(.Oy kn (eP n X.up (.slice z.tA X.data.length z.tc) X.OY (.slice (some ⟨z.bb,0,none⟩) 4 4) X.PS X.PZ (.slice z.iA z.ix.length z.ic) (z.pv) X.turn) 105)::(.own 42 6 (.slice (some ⟨z.bb,0,none⟩) 4 4) 4 ((z.bx).flatMap BX.cells))::(fL z.iA z.ix z.ic)::(bW kw (.slice (some ⟨ab,ao,none⟩) 5 R.nc) FD.1 R.fA R.fx R.fc m.PU R.sA m.bG R.sc R.tA m.bQ R.tc m.calls)::(oL R.fA R.fx R.fc)::(oS R.sA m.bG R.sc)::(oT R.tA m.bQ R.tc)::rr)) ?_ ?_
    ·have Bq:=ZE.drew;refine aU 13 Bq [] ?_;refine aW 3 ?_;refine ak (v:=.agg (((FD.1).cells).toArray)) 3 E Bq (λ_ aAE=>(aA E E (fu (cs:=((FD.1).cells)) (St.rg 5 aAE E (Ak))))) ?_;refine aW 2 ?_;refine gL (n:=6) (r:=6) (s:=10) kQ ?_ ?_
     ·refine ku 6 E eQ (HQ _ (Uk.nw hu Bq)) ?_;rintro _ arw ⟨rfl,aAF⟩;refine⟨_,E,?_⟩;have ZF:=Bq.on aAF;refine aW 4 ?_;refine bJ 10 ?_;refine nT 10 E ZF Ju ?_;intro afm aFA aeQ;refine dI ?_;refine bJ 11 ?_;refine sn 11 E 0 aeQ kQ ?_;intro aPw VB;refine aW 3 ?_;refine eO afm ?_ lU;exact VB
     refine nT 10 E Bq Ju ?_;intro aGQ aPx ayn;refine dI ?_;refine bJ 6 ?_;refine ku 6 E eQ (HQ _ (Uk.nw hu ayn)) ?_;rintro _ aGR ⟨rfl,aAG⟩;refine⟨_,E,?_⟩;have ZN:=ayn.on aAG;refine aW 4 ?_;refine bJ 11 ?_;refine sn 11 E 0 ZN kQ ?_;intro aFC Vt;refine aW 3 ?_;refine eO aGQ ?_ lU;exact Vt
    rintro aGS aPy arY
    try dsimp only at arY
    refine cB (l':=[(0,.pointer (some ⟨kw,0,none⟩)),(3,.pointer (some ⟨b1,0,none⟩)),(6,.pointer (some ⟨aGS,0,none⟩)),(7,D PW.2)]) lU (bH (aL (vm ?_)));by_cases aPz:PW.2=0
    ·refine zN 14 ?_;refine vv (v:=.agg #[D 6,D (-2),D x.l.fr,D (x.l.q:Int),D PW.1.ME,D 0,D PW.1.node,D 0,D 0,D 0,D 0,D 0,D 0,.slice none 0 0,.bool false,D 0,D 0,D 0,D 0,D 0,D 0,D 0,D 0]) iJ ?_;have aGT:=arY.fC [7,7];refine dZ eQ (jl (x:=⟨mE x.l.fr x.l.q PW.1,none,0⟩) aGT Y) ?_;rintro _ aPA ⟨rfl,aGU,aGV,aAH,aqg,aGW⟩;refine⟨_,E,?_⟩;refine zQ ?_;refine dG (l':=[]) trivial (jE (q9 ?_));have akN:=aGW.bq [4,3,2];have ayo:=akN.fC [6,6,3,3,6,6,6];rw[<-uf]at ayo;have I:eu m.off x.l=FD.1:=by
      unfold eu;rw[Mw,au Y]
     rw[uS (PW:=PW) J (by rw[I];exact M) ‹_›,I];exact⟨E,Wd.fq (X':=X) (z':=z) (Ls:=[]) (fA:=aGU) (fc:=aGV) (fx:=aAH) (sA:=R.sA) (sc:=R.sc) (tA:=R.tA) (tc:=R.tc) O Z hrr G hn ayo NG.more (by rw[aqg];exact rC (kr E)) (aJ hX).symm (by rw[aqg,iP,G.OM];rfl) mH⟩
    refine zN 7 ?_;have ayp:=arY.bq [2,1,0];rw[<-uf]at ayp;have I:eu m.off x.l=FD.1:=by
     unfold eu;rw[Mw,au Y]
    rw[uT (PW:=PW) J (by rw[I];exact M) ‹_›,I];exact⟨E,Wd.fq (X':=X) (z':=z) (Ls:=[]) (fA:=R.fA) (fc:=R.fc) (fx:=R.fx) (sA:=R.sA) (sc:=R.sc) (tA:=R.tA) (tc:=R.tc) O Z hrr G hn ayp NG.more (λu hu=>.inl hu) (aJ hX).symm G.OM.symm mH⟩
   refine zN 6 ?_;obtain⟨PW,M⟩:∃r,aN m.off x.l.q=r:=⟨_,E⟩;have HQ:=λw h=>qz m.off x.l.q w h;rw[M]at HQ;refine qb (X:=Nat) (λxv=>[(0,.pointer (some ⟨kw,0,none⟩)),(3,.pointer (some ⟨b1,0,none⟩)),(6,.pointer (some ⟨xv,0,none⟩)),(7,D PW.2)]) (λxv wr=>St B w0 wr ((.Oy xv #[D PW.1.node,D PW.1.ME] 27)::(.Oy aym (((FD.1).cells).toArray) 30)::(.Oy b1 (LX.row x) 119)::(.Oy kn (eP n X.up (.slice z.tA X.data.length z.tc) X.OY (.slice (some ⟨z.bb,0,none⟩) 4 4) X.PS X.PZ (.slice z.iA z.ix.length z.ic) (z.pv) X.turn) 105)::(.own 42 6 (.slice (some ⟨z.bb,0,none⟩) 4 4) 4 ((z.bx).flatMap BX.cells))::(fL z.iA z.ix z.ic)::(bW kw (.slice (some ⟨ab,ao,none⟩) 5 R.nc) m.off R.fA R.fx R.fc m.PU R.sA m.bG R.sc R.tA m.bQ R.tc m.calls)::(oL R.fA R.fx R.fc)::(oS R.sA m.bG R.sc)::(oT R.tA m.bQ R.tc)::rr)) ?_ ?_
   ·have afV:=QK.drew;refine aU 13 afV [] ?_;refine aW 3 ?_;refine ak (v:=.agg ((m.off.cells).toArray)) 3 E afV (λ_ aAI=>(aA E E (fu (cs:=(m.off.cells)) (St.rg 5 aAI E (Ak))))) ?_;refine aW 2 ?_;refine gL (n:=6) (r:=6) (s:=10) kQ ?_ ?_
    ·refine ku 6 E eQ (HQ _ (Uk.nw hu afV)) ?_;rintro _ aPB ⟨rfl,aAJ⟩;refine⟨_,E,?_⟩;have aGX:=afV.on aAJ;refine aW 4 ?_;refine bJ 10 ?_;refine nT 10 E aGX Ju ?_;intro aGY aPC aq9;refine dI ?_;refine bJ 11 ?_;refine sn 11 E 0 aq9 kQ ?_;intro aPD aeU;refine aW 3 ?_;refine eO aGY ?_ lU;exact aeU
    refine nT 10 E afV Ju ?_;intro aGZ aPE ayq;refine dI ?_;refine bJ 6 ?_;refine ku 6 E eQ (HQ _ (Uk.nw hu ayq)) ?_;rintro _ aPF ⟨rfl,aAK⟩;refine⟨_,E,?_⟩;have aG0:=ayq.on aAK;refine aW 4 ?_;refine bJ 11 ?_;refine sn 11 E 0 aG0 kQ ?_;intro aPG ara;refine aW 3 ?_;refine eO aGZ ?_ lU;exact ara
   rintro aG1 aG2 afW
   try dsimp only at afW
   refine cB (l':=[(0,.pointer (some ⟨kw,0,none⟩)),(3,.pointer (some ⟨b1,0,none⟩)),(6,.pointer (some ⟨aG1,0,none⟩)),(7,D PW.2)]) lU (bH (aL (vm ?_)));by_cases aPH:PW.2=0
   ·refine zN 14 ?_;refine vv (v:=.agg #[D 6,D (-2),D x.l.fr,D (x.l.q:Int),D PW.1.ME,D 0,D PW.1.node,D 0,D 0,D 0,D 0,D 0,D 0,.slice none 0 0,.bool false,D 0,D 0,D 0,D 0,D 0,D 0,D 0,D 0]) iJ ?_;have aG3:=afW.fC [7,7];refine dZ eQ (jl (x:=⟨mE x.l.fr x.l.q PW.1,none,0⟩) aG3 Y) ?_;rintro _ aG4 ⟨rfl,aG5,aG6,aAL,aqh,Vu⟩;refine⟨_,E,?_⟩;refine zQ ?_;refine dG (l':=[]) trivial (jE (q9 ?_));have aG7:=Vu.bq [4,3,2];have afX:=aG7.fC [6,6,3,3,6,6,6];rw[<-uf]at afX;have I:eu m.off x.l=m.off:=by
     unfold eu
     first|rw[Mw,ah Y]|rw[ah Y]
    rw[uS (PW:=PW) J (by rw[I];exact M) ‹_›,I];exact⟨E,Wd.fq (X':=X) (z':=z) (Ls:=[]) (fA:=aG5) (fc:=aG6) (fx:=aAL) (sA:=R.sA) (sc:=R.sc) (tA:=R.tA) (tc:=R.tc) O Z hrr G hn afX NG.more (by rw[aqh];exact rC (kr E)) (aJ hX).symm (by rw[aqh,iP,G.OM];rfl) mH⟩
   refine zN 7 ?_;have ayr:=afW.bq [2,1,0];rw[<-uf]at ayr;have I:eu m.off x.l=m.off:=by
    unfold eu
    first|rw[Mw,ah Y]|rw[ah Y]
   rw[uT (PW:=PW) J (by rw[I];exact M) ‹_›,I];exact⟨E,Wd.fq (X':=X) (z':=z) (Ls:=[]) (fA:=R.fA) (fc:=R.fc) (fx:=R.fx) (sA:=R.sA) (sc:=R.sc) (tA:=R.tA) (tc:=R.tc) O Z hrr G hn ayr NG.more (λu hu=>.inl hu) (aJ hX).symm G.OM.symm mH⟩
  refine zN 6 ?_;obtain⟨PW,M⟩:∃r,aN m.off x.l.q=r:=⟨_,E⟩;have HQ:=λw h=>qz m.off x.l.q w h;rw[M]at HQ;refine qb (X:=Nat) (λxv=>[(0,.pointer (some ⟨kw,0,none⟩)),(3,.pointer (some ⟨b1,0,none⟩)),(6,.pointer (some ⟨xv,0,none⟩)),(7,D PW.2)]) (λxv wr=>St B w0 wr ((.Oy xv #[D PW.1.node,D PW.1.ME] 27)::(.Oy b1 (LX.row x) 119)::(.Oy kn (eP n X.up (.slice z.tA X.data.length z.tc) X.OY (.slice (some ⟨z.bb,0,none⟩) 4 4) X.PS X.PZ (.slice z.iA z.ix.length z.ic) (z.pv) X.turn) 105)::(.own 42 6 (.slice (some ⟨z.bb,0,none⟩) 4 4) 4 ((z.bx).flatMap BX.cells))::(fL z.iA z.ix z.ic)::(bW kw (.slice (some ⟨ab,ao,none⟩) 5 R.nc) m.off R.fA R.fx R.fc m.PU R.sA m.bG R.sc R.tA m.bQ R.tc m.calls)::(oL R.fA R.fx R.fc)::(oS R.sA m.bG R.sc)::(oT R.tA m.bQ R.tc)::rr)) ?_ ?_
  ·have afY:=S3.drew;refine aU 13 afY [] ?_;refine aW 3 ?_;refine ak (v:=.agg ((m.off.cells).toArray)) 3 E afY (λ_ aAM=>(aA E E (fu (cs:=(m.off.cells)) (St.rg 4 aAM E (Ak))))) ?_;refine aW 2 ?_;refine gL (n:=6) (r:=6) (s:=10) kQ ?_ ?_
   ·refine ku 6 E eQ (HQ _ (Uk.nw hu afY)) ?_;rintro _ aG8 ⟨rfl,aAN⟩;refine⟨_,E,?_⟩;have arZ:=afY.on aAN;refine aW 4 ?_;refine bJ 10 ?_;refine nT 10 E arZ Ju ?_;intro aG9 aPI aHa;refine dI ?_;refine bJ 11 ?_;refine sn 11 E 0 aHa kQ ?_;intro aPJ aHb;refine aW 3 ?_;refine eO aG9 ?_ lU;exact aHb
   refine nT 10 E afY Ju ?_;intro aHc aPK ays;refine dI ?_;refine bJ 6 ?_;refine ku 6 E eQ (HQ _ (Uk.nw hu ays)) ?_;rintro _ aPL ⟨rfl,aAO⟩;refine⟨_,E,?_⟩;have aHd:=ays.on aAO;refine aW 4 ?_;refine bJ 11 ?_;refine sn 11 E 0 aHd kQ ?_;intro aPM aHe;refine aW 3 ?_;refine eO aHc ?_ lU;exact aHe
  rintro aHf aPN ar0
  try dsimp only at ar0
  refine cB (l':=[(0,.pointer (some ⟨kw,0,none⟩)),(3,.pointer (some ⟨b1,0,none⟩)),(6,.pointer (some ⟨aHf,0,none⟩)),(7,D PW.2)]) lU (bH (aL (vm ?_)));by_cases aPO:PW.2=0
  ·refine zN 14 ?_;refine vv (v:=.agg #[D 6,D (-2),D x.l.fr,D (x.l.q:Int),D PW.1.ME,D 0,D PW.1.node,D 0,D 0,D 0,D 0,D 0,D 0,.slice none 0 0,.bool false,D 0,D 0,D 0,D 0,D 0,D 0,D 0,D 0]) iJ ?_;have ar1:=ar0.fC [6,6];refine dZ eQ (jl (x:=⟨mE x.l.fr x.l.q PW.1,none,0⟩) ar1 Y) ?_;rintro _ aHg ⟨rfl,aHh,aHi,aAP,aqi,ZT⟩;refine⟨_,E,?_⟩;refine zQ ?_;refine dG (l':=[]) trivial (jE (q9 ?_));have akP:=ZT.bq [3,2];have ayt:=akP.fC [6,6,3,3,6,6,6];rw[<-uf]at ayt;have I:eu m.off x.l=m.off:=by
    unfold eu
    first|rw[Mw,ah Y]|rw[ah Y]
   rw[uS (PW:=PW) J (by rw[I];exact M) ‹_›,I];exact⟨E,Wd.fq (X':=X) (z':=z) (Ls:=[]) (fA:=aHh) (fc:=aHi) (fx:=aAP) (sA:=R.sA) (sc:=R.sc) (tA:=R.tA) (tc:=R.tc) O Z hrr G hn ayt NG.more (by rw[aqi];exact rC (kr E)) (aJ hX).symm (by rw[aqi,iP,G.OM];rfl) mH⟩
  refine zN 7 ?_;have ayu:=ar0.bq [1,0];rw[<-uf]at ayu;have I:eu m.off x.l=m.off:=by
   unfold eu
   first|rw[Mw,ah Y]|rw[ah Y]
  rw[uT (PW:=PW) J (by rw[I];exact M) ‹_›,I];exact⟨E,Wd.fq (X':=X) (z':=z) (Ls:=[]) (fA:=R.fA) (fc:=R.fc) (fx:=R.fx) (sA:=R.sA) (sc:=R.sc) (tA:=R.tA) (tc:=R.tc) O Z hrr G hn ayu NG.more (λu hu=>.inl hu) (aJ hX).symm G.OM.symm mH⟩
 refine zN 18 ?_;refine je S3 mixed kQ ?_;refine zN 3 ?_;refine uv (v:=.slice (some ⟨ab,ao,none⟩) 5 R.nc) (λ_ aAQ=>(aA E E (aV (St.cl 4 aAQ E CG)))) ?_;refine zQ ?_;refine uv (v:=D (n:Int)) (λ_ aAR=>(J▸(aA E E (aV (St.cl 0 aAR E E))))) ?_;refine uv (λ_ _=>nC n) ?_;refine uv (v:=.pointer (some ⟨kn,0,none⟩)) (λ_ aAS=>(aA E E (aV (O▸yF harr hn aAS (PO 8 E hL))))) ?_;refine zN 4 ?_;refine jB λaHj ak5=>?_;refine zQ ?_
 cases aK8:(X.up)
 ·refine cB (l':=[(0,.pointer (some ⟨kw,0,none⟩)),(3,.pointer (some ⟨b1,0,none⟩)),(76,.bool false)]) Ip (oF E (uh (jE (q9 ?_))));have ak6:=ak5.bq [0];rw[<-uf]at ak6;rw[afU J hX ‹_›];exact⟨E,Wd.fq (X':=X) (z':=z) (Ls:=[]) (fA:=R.fA) (fc:=R.fc) (fx:=R.fx) (sA:=R.sA) (sc:=R.sc) (tA:=R.tA) (tc:=R.tc) O Z hrr G hn ak6 NG.more (λu hu=>.inl hu) (aJ hX).symm G.OM.symm mH⟩
 refine cB (l':=[(0,.pointer (some ⟨kw,0,none⟩)),(3,.pointer (some ⟨b1,0,none⟩)),(76,.bool true)]) Ip (oD E (bH (je ak5 mixed kQ ?_)));refine zN 3 ?_;refine uv (v:=.slice (some ⟨ab,ao,none⟩) 5 R.nc) (λ_ aAT=>(aA E E (aV (St.cl 4 aAT E CG)))) ?_;refine zQ ?_;refine uv (v:=D (n:Int)) (λ_ aAU=>(J▸(aA E E (aV (St.cl 0 aAU E E))))) ?_;refine uv (λ_ _=>nC n) ?_;refine uv (v:=.pointer (some ⟨kn,0,none⟩)) (λ_ aAV=>(aA E E (aV (O▸yF harr hn aAV (PO 8 E hL))))) ?_;refine zQ ?_;refine jB λaHk ar2=>?_;refine zQ ?_;have akS:=ar2.drew;refine gV 11 8 akS [3] ?_;iterate 6 refine ji ?_
 refine gI (m:=4) (r:=6) kQ ?_;refine o8 (i:=6) E E (V:=λb=>.slice (some ⟨b,0,none⟩) 1 1) (row:=LX.row x) (t:=119) akS (wn E) E E (bD (vs:=[(0,.agg (LX.row x))]) E zL kQ) ?_;intro aPP aPQ ayv;refine ji ?_;refine gI (m:=3) (r:=7) kQ ?_;refine adG (i:=7) E E (news:=(LX.cells x)) (xs':=(z.ix++[x]).flatMap LX.cells) 4 ayv (wn E) E E E E E E (St.nP (xs:=(LX.cells x)) 0 ayv E E E) dQ underlying91 abO E dQ (Gu _) lQ Y (jO (enc:=LX.cells) E E) ?_;intro ayw ayx aPR aHl;refine ji ?_;refine gF kQ E E E ?_;refine zN 2 ?_;refine kZ (row':=eP n X.up (.slice z.tA X.data.length z.tc) X.OY (.slice (some ⟨z.bb,0,none⟩) 4 4) X.PS X.PZ (.slice ayw (z.ix.length+1) ayx) (z.pv) X.turn) 2 aHl kQ ?_;intro aHm ak7;refine zQ ?_;refine kC ?_;refine dG (l':=[]) trivial (jE (q9 ?_));have ar3:=ak7.bq [1,0];rw[<-uf]at ar3;have Zb:z.ix.length+1=(z.ix++[x]).length:=by simp
 rw[Zb]at ar3;rw[afT J hX ‹_›];exact⟨E,Wd.fq (X':=X.box (X.Mv++[x.l])) (z':={z with iA:=ayw,ic:=ayx,ix:=z.ix++[x]}) (Ls:=[]) (fA:=R.fA) (fc:=R.fc) (fx:=R.fx) (sA:=R.sA) (sc:=R.sc) (tA:=R.tA) (tc:=R.tc) O Z hrr G hn ar3 (NG.more.aAz (by rw[bI];exact G.hld x (gJ ..))) (λu hu=>.inl hu) E G.OM.symm mH⟩
set_option linter.unnecessarySimpa false
def Zc{α β:Type}(f:α->β):∀(l:List α) (i:Nat),(l.eraseIdx i).map f=(l.map f).eraseIdx i
 |[],_=>rfl
 |_::_,0=>rfl
 |a::l,i+1=>bP (f a:: ·) (Zc f l i)
def afZ{m:Cl}{at_:Nat}{c s:Bool}(h:m.OM.length=0):m.pick at_ c s=m:=by
 unfold Cl.pick;rw[pW.1 h];rfl
def EA{m:Cl}{at_:Nat}{c s:Bool}{l:bO}(h:m.OM[at_ % m.OM.length]? =some l):m.pick at_ c s=if c=true then(if s=true then m else{m with OM:=m.OM.eraseIdx (at_ % m.OM.length)}).P6 l else if s=true then m else{m with OM:=m.OM.eraseIdx (at_ % m.OM.length)}:=by
 unfold Cl.pick;rw[h]
def Wd.drop1{K:CK}{B:Nat}{w0 w:World}{fs:List OJ}{m:Cl}{x:LX}{H:List LX}(h:Wd K B w0 w fs m (x::H)):Wd K B w0 w fs m H:=by
 obtain⟨R,G,S⟩:=h;exact⟨R,⟨G.OM,G.flo,G.jH,G.arr,λu I=>G.hld u (dM _ I)⟩,S⟩
def FV{K:CK}{B n kn kw:Nat}{w0 w:World}{fs:List OJ}{m:Cl}{H:List LX}{at_:Nat}{comes stays:Bool}(hn:n<5)(O:K.nb n=kn)(J:K.wb=kw)(I:Uk B w0)(hB1:m.OM.length<=1000000000)(hB2:m.bQ.length<=1000000000000)(hib:∀j,j<5->(m.aj j).Mv.length<=1000000000)(HW:Wd K B w0 w fs m H)(Bd:∀l∈m.OM,∃j,j<5/\(l.tg= -1\/l.tg= -2\/l.tg=((j:Nat):Int))):
 Calls prog 34 #[pV kw 0,D (at_:Int),.bool comes,.bool stays] w (λe w'=>e=.returned (.tuple #[])/\Wd K B w0 w' fs (m.pick at_ comes stays) H):=by
 obtain⟨R,G,S0⟩:=HW.open hn;have hfl:R.fx.length=m.OM.length:=by rw[<-G.OM,iE]
 have NG:=G.jH n hn;obtain⟨X,hX⟩:∃X,m.aj n=X:=⟨_,E⟩;obtain⟨z,hz⟩:∃z,R.nx n=z:=⟨_,E⟩;rw[hX,hz]at S0 NG;have hL:∀f∈R.L,f∈iW K R m fs n:=λf h=>aK _ (aK _ h);obtain⟨rr,Z⟩:∃r,iW K R m fs n=r:=⟨_,E⟩;rw[Z]at S0 hL;have S:St B w0 w ((bN kn n X.up z.tA X.data z.tc X.OY z.bb X.PS X.PZ z.iA z.ix z.ic z.pv X.turn)::(oB z.bb z.bx)::(fL z.iA z.ix z.ic)::(bW kw (.slice R.nA 5 R.nc) m.off R.fA R.fx R.fc m.PU R.sA m.bG R.sc R.tA m.bQ R.tc m.calls)::(oL R.fA R.fx R.fc)::(oS R.sA m.bG R.sc)::(oT R.tA m.bQ R.tc)::rr):=by subst O;subst J;exact S0
 clear S0;have hlen:=(S.own 1 E).1;rw[jI (sz:=6) (λ_=>E)]at hlen;refine jc 47 func34 ?_;refine cw [0,1,2,3] ?_;refine zN 6 ?_;refine vv (aA E E (aV (St.cl 3 S E Vx))) ?_;refine zQ ?_;by_cases h1:(R.fx.length:Int)=0
 ·refine zN 7 ?_;rw[afZ (by rw[<-hfl];omega)];exact⟨E,HW⟩
 refine zN 7 ?_;obtain⟨g2,hfA⟩:=GQ (S.own 4 E) Y;have S2:=S;rw[hfA]at S2;obtain⟨i,hit⟩:∃i,i=at_ % R.fx.length:=⟨_,E⟩;have hi:i<R.fx.length:=by rw[hit];exact mod_lt _ Y
 obtain⟨x,hx⟩:∃x,R.fx[i]? =some x:=⟨_,eT hi⟩;have M:x∈R.fx:=jN hx;have hfi:m.OM[at_ % m.OM.length]? =some x.l:=by rw[<-hfl,<-hit,<-G.OM,vX,hx];rfl
 refine zN 5 ?_;refine vv (aA E E (aV (St.cl 3 S2 E Vx))) ?_;refine zQ ?_;refine vv (v:=D ((i:Nat):Int)) (cK E E E (Y1 hit Y)) ?_;refine zN 8 ?_;refine vv (aA E E (aV (St.cl 3 S2 E Vx))) ?_;refine zQ ?_;refine vv (nC i) ?_;refine vv (aA E E (fu (cs:=LX.cells x) (Rd.Bb (St.Uz 4 S2 E) (λ_ _ h=>dF (enc:=LX.cells) (sz:=23) (λ_=>E) hx h)))) ?_;refine iU S2 agH ?_;intro b3 w4 S5;refine sa 0 S5 kQ ?_;intro w6 S7;refine zN 6 ?_
 cases hb8:(stays)
 ·refine zN 9 ?_;refine vv (aA E E (aV (St.cl 4 S7 E Vx))) ?_;refine zN 2 ?_;refine vv (v:=D ((i+1:Nat):Int)) jW ?_;have S9:=S7.fC [7,7,7,7,7,7,7];refine dZ eQ (XE g2 R.fx.length R.fc i _ (R.fx.flatMap LX.cells) _ (S9.own 4 E) (an3 _) hi) ?_;rintro _ w10 ⟨rfl,aHn,ayy⟩;refine⟨_,E,?_⟩;rw[MH (enc:=LX.cells) (sz:=23) (λ_=>E)]at ayy;have EJ:=S9.agE 4 E aHn ayy;refine zN 2 ?_;refine kZ 3 EJ kQ ?_ (hs:=by exact ark);intro Py kP;refine zN 7 ?_
  cases aPS:(comes)
  ·refine cB (l':=[(0,pV kw 0),(9,pV b3 0),(43,.bool false)]) Ip (oF E (uh (q9 ?_)));rw[EA hfi];have Zb:R.fx.length-1=(R.fx.eraseIdx i).length:=by rw[length_eraseIdx,au hi]
   rw[Zb]at kP;have ar4:=Wd.fq (X':=X) (z':=z) (m':={m with OM:=m.OM.eraseIdx (at_ % m.OM.length)}) (H':=x::H) (Ls:=[.Oy b3 #[D x.l.kd,D x.l.fr,D x.l.tg,D ((x.l.q:Nat):Int),D x.l.ep,D x.l.at_,D x.l.nd,D x.l.op.kind,D x.l.op.OU,D x.l.op.id,D x.l.op.body,D x.l.op.OZ,D x.l.op.PX,.slice x.A x.l.Jp.length x.c,.bool x.l.last,D x.l.num,D x.l.bQ.num,D x.l.bQ.Ut.code,D x.l.bQ.Ut.iD,D x.l.bQ.Ut.PX,D x.l.bQ.Ut.body,D x.l.bQ.pl.node,D x.l.bQ.pl.ME] 119]) (fA:=(aD g2 0)) (fc:=R.fc) (fx:=R.fx.eraseIdx i) (sA:=R.sA) (sc:=R.sc) (tA:=R.tA) (tc:=R.tc) O J Z G hn kP NG.more (λu I=>.inl (Lp I)) (aJ hX).symm (by rw[Zc,G.OM,hit,hfl]) (λu I=>(iq.1 I).elim (λe=>.inr (e▸((G.flo x M).mono λf hf=>bM _ hf))) .inl);exact⟨E,by simpa[*]using Wd.drop1 ar4⟩
  refine cB (l':=[(0,pV kw 0),(9,pV b3 0),(43,.bool true)]) Ip (oD E (aL (vm ?_)));refine zQ ?_;have Zb:R.fx.length-1=(R.fx.eraseIdx i).length:=by rw[length_eraseIdx,au hi]
  rw[Zb]at kP;have aHo:=Wd.fq (X':=X) (z':=z) (m':={m with OM:=m.OM.eraseIdx (at_ % m.OM.length)}) (H':=x::H) (Ls:=[.Oy b3 #[D x.l.kd,D x.l.fr,D x.l.tg,D ((x.l.q:Nat):Int),D x.l.ep,D x.l.at_,D x.l.nd,D x.l.op.kind,D x.l.op.OU,D x.l.op.id,D x.l.op.body,D x.l.op.OZ,D x.l.op.PX,.slice x.A x.l.Jp.length x.c,.bool x.l.last,D x.l.num,D x.l.bQ.num,D x.l.bQ.Ut.code,D x.l.bQ.Ut.iD,D x.l.bQ.Ut.PX,D x.l.bQ.Ut.body,D x.l.bQ.pl.node,D x.l.bQ.pl.ME] 119]) (fA:=(aD g2 0)) (fc:=R.fc) (fx:=R.fx.eraseIdx i) (sA:=R.sA) (sc:=R.sc) (tA:=R.tA) (tc:=R.tc) O J Z G hn kP NG.more (λu I=>.inl (Lp I)) (aJ hX).symm (by rw[Zc,G.OM,hit,hfl]) (λu I=>(iq.1 I).elim (λe=>.inr (e▸((G.flo x M).mono λf hf=>bM _ hf))) .inl);obtain⟨nn,hnn,htt⟩:∃nn,nn<5/\(x.l.tg= -1\/x.l.tg= -2\/x.l.tg=((nn:Nat):Int)):=Bd x.l (by rw[<-G.OM];exact acy M);refine dZ eQ (FU (m:={m with OM:=m.OM.eraseIdx (at_ % m.OM.length)}) (x:=x) hnn E J I (by first|omega|(show(m.OM.eraseIdx _).length<=_;have:=acE m.OM (at_ % m.OM.length);omega)) hB2 (hib nn hnn) aHo htt) ?_;rintro _ J9 ⟨rfl,aHp⟩;refine⟨_,E,?_⟩;refine zQ ?_;refine dG (l':=[]) trivial (q9 ?_);rw[EA hfi];exact⟨E,by simpa[*]using aHp⟩
 refine zN 11 ?_
 cases aPT:(comes)
 ·refine cB (l':=[(0,pV kw 0),(9,pV b3 0),(43,.bool false)]) Ip (oF E (uh (q9 ?_)));rw[EA hfi];have l6:=S7.fC [7,7,7,7,7,7,7];rw[<-hfA]at l6;have aHq:=Wd.fq (X':=X) (z':=z) (m':=m) (H':=x::H) (Ls:=[.Oy b3 #[D x.l.kd,D x.l.fr,D x.l.tg,D ((x.l.q:Nat):Int),D x.l.ep,D x.l.at_,D x.l.nd,D x.l.op.kind,D x.l.op.OU,D x.l.op.id,D x.l.op.body,D x.l.op.OZ,D x.l.op.PX,.slice x.A x.l.Jp.length x.c,.bool x.l.last,D x.l.num,D x.l.bQ.num,D x.l.bQ.Ut.code,D x.l.bQ.Ut.iD,D x.l.bQ.Ut.PX,D x.l.bQ.Ut.body,D x.l.bQ.pl.node,D x.l.bQ.pl.ME] 119]) (fA:=R.fA) (fc:=R.fc) (fx:=R.fx) (sA:=R.sA) (sc:=R.sc) (tA:=R.tA) (tc:=R.tc) O J Z G hn l6 NG.more (λu I=>.inl I) (aJ hX).symm G.OM.symm (λu I=>(iq.1 I).elim (λe=>.inr (e▸((G.flo x M).mono λf hf=>bM _ hf))) .inl);exact⟨E,by simpa[*]using Wd.drop1 aHq⟩
 refine cB (l':=[(0,pV kw 0),(9,pV b3 0),(43,.bool true)]) Ip (oD E (aL (vm ?_)));refine zQ ?_;have l7:=S7.fC [7,7,7,7,7,7,7];rw[<-hfA]at l7;have aHr:=Wd.fq (X':=X) (z':=z) (m':=m) (H':=x::H) (Ls:=[.Oy b3 #[D x.l.kd,D x.l.fr,D x.l.tg,D ((x.l.q:Nat):Int),D x.l.ep,D x.l.at_,D x.l.nd,D x.l.op.kind,D x.l.op.OU,D x.l.op.id,D x.l.op.body,D x.l.op.OZ,D x.l.op.PX,.slice x.A x.l.Jp.length x.c,.bool x.l.last,D x.l.num,D x.l.bQ.num,D x.l.bQ.Ut.code,D x.l.bQ.Ut.iD,D x.l.bQ.Ut.PX,D x.l.bQ.Ut.body,D x.l.bQ.pl.node,D x.l.bQ.pl.ME] 119]) (fA:=R.fA) (fc:=R.fc) (fx:=R.fx) (sA:=R.sA) (sc:=R.sc) (tA:=R.tA) (tc:=R.tc) O J Z G hn l7 NG.more (λu I=>.inl I) (aJ hX).symm G.OM.symm (λu I=>(iq.1 I).elim (λe=>.inr (e▸((G.flo x M).mono λf hf=>bM _ hf))) .inl);obtain⟨nn,hnn,htt⟩:∃nn,nn<5/\(x.l.tg= -1\/x.l.tg= -2\/x.l.tg=((nn:Nat):Int)):=Bd x.l (by rw[<-G.OM];exact acy M);refine dZ eQ (FU (m:=m) (x:=x) hnn E J I (by first|omega|(show(m.OM.eraseIdx _).length<=_;have:=acE m.OM (at_ % m.OM.length);omega)) hB2 (hib nn hnn) aHr htt) ?_;rintro _ Pt ⟨rfl,aHs⟩;refine⟨_,E,?_⟩;refine zQ ?_;refine dG (l':=[]) trivial (q9 ?_);rw[EA hfi];exact⟨E,by simpa[*]using aHs⟩
open Ci
def acZ{α β:Type}{R:α->β->Prop}{r:β}:∀ {l:List α} {m j:Nat} {u:α},fD R l (replicate m r)->l[j]? =some u->R u r
 |_::_,_+1,0,_,h,I=>by cases I;exact h.1
 |_::l,m+1,j+1,_,h,I=>acZ (l:=l) (m:=m) h.2 I
 |[],_,_,_,_,I=>by simp at I
def wf_i64{x:Int}(h:(Lit.int .i64 x).wf=true):Oc x:=by
 have h1:IntKind.i64.min= -9223372036854775808:=by decide
 have I:IntKind.i64.max=9223372036854775807:=by decide
 unfold Oc;simp only[Lit.wf,h1,I,Bool.and_eq_true,decide_eq_true_eq]at h;exact h
def aoq{α:Type}[Ci α]{W:World}{v:Value}{b:Nat}(h:Fits W v (.sl b (replicate (size α) (.int .i64)))){A:Option Addr}{n c:Nat}{l:List α}(hv:v=.slice A n c)(O:Rd W W.heap.size (size α) A n (mq l)):∀x∈l,∀y∈TQ x,Oc y:=by
 intro x hx y hy;obtain⟨k,Z⟩:=bS.1 hx;obtain⟨j,hj⟩:=bS.1 hy;have J:k<n:=by rw[<-O.SV];exact(dw.1 Z).1
 obtain⟨bb,off,a,rfl,_,ha,hc⟩:=O.atX J;rw[Z]at ha
 cases ha;have h1:=hc j y hj;have hjs:j<size α:=by rw[<-len x];exact(dw.1 hj).1
 rcases h with h|⟨ad,n',c',h,_,_,_,I⟩
 ·rw[hv]at h;cases h
 rw[hv]at h
 cases h;obtain⟨cs,h2,_,h3⟩:=I k J;have hl:=h2.len;rw[abS]at hl;have hu:cs[j]? =some (cs[j]'Y):=eT Y;have M:=h3 j _ hu;rw[abS,Go.WideShapes.add_plain,h1]at M;obtain⟨z,hz,hw⟩:=acZ h2 hu;rw[hz]at M
 cases M;exact wf_i64 hw
instance:Ci Gr where
 size:=5
 TQ x:=[x.kd,x.a,x.b,x.c,x.d]
 of l:=⟨l.getD 0 0,l.getD 1 0,l.getD 2 0,l.getD 3 0,l.getD 4 0⟩
 pos:=Y
 len _:=rfl
 inv xs h:=by
  match xs,h with
  |[a,b,c,d,e],_=>rfl
def aj2:flat prog 30 22=some [.sl 40 (replicate 5 (.int .i64))]:=kQ
def af0{W:World}{v:Value}(h:TN prog W v 22):∃A c,∃l:List Gr,v=.slice A l.length c/\Rd W W.heap.size 5 A l.length (l.flatMap Gr.cells)/\ ∀g∈l,g.ok:=by
 obtain⟨⟨base,O⟩,l,M,Z⟩:=h;rw[aj2]at M
 cases M;obtain⟨A,n,c,rfl⟩:=okWide_slice underlying22 O;obtain⟨a,l1,e,h1,_⟩:=fD.yH Z;simp[Value.cells]at e;obtain⟨rfl,_⟩:=e;obtain⟨A',n',c',l,e,J,hn,hc,hb,h0⟩:=adS (α:=Gr) h1;have hw:=aoq (α:=Gr) h1 e J;simp only[Value.slice.injEq]at e;obtain⟨rfl,rfl,rfl⟩:=e;have I:l.length=n:=Rd.SV (α:=Gr) J;subst I;refine⟨A,c,l,E,J,λg hg=>?_⟩;have h:=hw g hg;exact⟨h _ (by simp[TQ]),h _ (by simp[TQ]),h _ (by simp[TQ]),h _ (by simp[TQ]),h _ (by simp[TQ])⟩
end
def PL(a:Ac):Nat:=if a.kd=1\/a.kd=2\/a.kd=6\/a.kd=10\/a.kd=8 then 20 else 0
def jA:List Ac->Nat
 |[]=>200
 |a::l=>jA l+PL a
def LH:∀(l:List Ac) (a:Ac),jA (l++[a])=jA l+PL a
 |[],a=>rfl
 |b::l,a=>by rw[vW,jA,jA,LH l a];omega
def R9:∀(l:List Ac),jA l<=200+20*l.length
 |[]=>aB
 |a::l=>by
  have h:=R9 l;have:PL a<=20:=by unfold PL;split<;>omega
  rw[jA,mV];omega
def zD{l:List Ac}{k:Nat}{a:Ac}(h:l[k]? =some a):jA (l.take (k+1))=jA (l.take k)+PL a:=by
 rw[qY,h];exact LH _ _
def Pm{a:Ac}(h:a.kd=1\/a.kd=2\/a.kd=6\/a.kd=10\/a.kd=8):PL a=20:=au h
def Pn{a:Ac}(h:¬(a.kd=1\/a.kd=2\/a.kd=6\/a.kd=10\/a.kd=8)):PL a=0:=ah h
def Jf{l:List Ac}{A:Option Addr}{c:Nat}(hl:l.length<=100000)(w:World)(h:Rd w w.heap.size 11 A l.length (l.flatMap Ac.cells)):
 Calls prog 10 #[.slice A l.length c] w (λe w'=>e=.returned (.int .i64 ((jA l:Nat):Int))/\Below w.heap.size w w'):=by
 have S:=(St.start w).dJ h;refine jc 25 func10 ?_;refine cw [0] ?_;refine zN 17 ?_;refine iO (X:=Nat×Nat) (λM=>[(0,.slice A l.length c),(2,.int .i64 0),(3,.int .i64 (M.2:Int)),(4,.int .i64 (M.1:Int))]) (λM wr=>(M.1<=l.length)/\(M.2=jA (l.take M.1))/\St w.heap.size w wr [.rd 11 A l.length ((l).flatMap Ac.cells)]) (λM=>l.length-M.1) (0,200) ?_ ?_ ?_
 ·exact⟨aG _,E,S⟩
 ·exact lU
 rintro⟨k,n⟩ w1 ⟨hi3,O,J⟩
 try dsimp only at hi3 O J
 refine cB (l':=[(0,.slice A l.length c),(2,.int .i64 0),(3,.int .i64 (n:Int)),(4,.int .i64 (k:Int))]) lU (bH (bH (aL (vm ?_))));refine zN 2 ?_;by_cases h5:(k:Int)< (l.length:Int)
 ·refine zN 9 ?_;have hle:=R9 (l.take k);have hlt:(l.take k).length<=100000:=by rw[eD];omega
  refine zN 3 ?_;obtain⟨b6,o7,rfl⟩:=Rd.addr (St.rd 0 J E) Y;obtain⟨Z,I⟩:=NA k (St.rd 0 J E) Y;refine vv (nC k) ?_;refine zQ ?_;refine vv (aA E E (aV (Rd.cl2 (i:=0) (St.rd 0 J E) (dF (enc:=Ac.cells) (sz:=11) (λ_=>E) I E)))) ?_;refine zN 6 ?_;by_cases h10:Z.kd=1
  ·refine zN 10 ?_;refine vv (v:=.int .i64 ((n+20:Nat):Int)) jW ?_;refine zN 7 ?_;refine vv (v:=.int .i64 ((k+1:Nat):Int)) jW ?_;refine zN 2 ?_;refine dL (k+1,n+20) ?_ lU (by first|omega|(dsimp only;omega));exact⟨uQ,(by dsimp only;rw[zD I];first|rw[Pm Y];omega|rw[Pn Y];omega),J⟩
  refine zN 7 ?_;by_cases h11:Z.kd=2
  ·refine zN 10 ?_;refine vv (v:=.int .i64 ((n+20:Nat):Int)) jW ?_;refine zN 7 ?_;refine vv (v:=.int .i64 ((k+1:Nat):Int)) jW ?_;refine zN 2 ?_;refine dL (k+1,n+20) ?_ lU (by first|omega|(dsimp only;omega));exact⟨uQ,(by dsimp only;rw[zD I];first|rw[Pm Y];omega|rw[Pn Y];omega),J⟩
  refine zN 7 ?_;by_cases h12:Z.kd=6
  ·refine zN 10 ?_;refine vv (v:=.int .i64 ((n+20:Nat):Int)) jW ?_;refine zN 7 ?_;refine vv (v:=.int .i64 ((k+1:Nat):Int)) jW ?_;refine zN 2 ?_;refine dL (k+1,n+20) ?_ lU (by first|omega|(dsimp only;omega));exact⟨uQ,(by dsimp only;rw[zD I];first|rw[Pm Y];omega|rw[Pn Y];omega),J⟩
  refine zN 7 ?_;by_cases h13:Z.kd=10
  ·refine zN 10 ?_;refine vv (v:=.int .i64 ((n+20:Nat):Int)) jW ?_;refine zN 7 ?_;refine vv (v:=.int .i64 ((k+1:Nat):Int)) jW ?_;refine zN 2 ?_;refine dL (k+1,n+20) ?_ lU (by first|omega|(dsimp only;omega));exact⟨uQ,(by dsimp only;rw[zD I];first|rw[Pm Y];omega|rw[Pn Y];omega),J⟩
  refine zN 6 ?_;by_cases h14:Z.kd=8
  ·refine zN 7 ?_;refine vv (v:=.int .i64 ((n+20:Nat):Int)) jW ?_;refine zN 7 ?_;refine vv (v:=.int .i64 ((k+1:Nat):Int)) jW ?_;refine zN 2 ?_;refine dL (k+1,n+20) ?_ lU (by first|omega|(dsimp only;omega));exact⟨uQ,(by dsimp only;rw[zD I];first|rw[Pm Y];omega|rw[Pn Y];omega),J⟩
  refine zN 11 ?_;refine vv (v:=.int .i64 ((k+1:Nat):Int)) jW ?_;refine zN 2 ?_;refine dL (k+1,n) ?_ lU (by first|omega|(dsimp only;omega));exact⟨uQ,(by dsimp only;rw[zD I];first|rw[Pm Y];omega|rw[Pn Y];omega),J⟩
 refine zN 17 ?_;rw[show n=jA l by rw[O,kg Y]];exact⟨E,J.Qe⟩
end Go.Proofs.YtefabpdniidmbaaGreatDoor
