import Derived.Test.YtceeleolddkibaaGreatDoorG701e8
set_option linter.all false
set_option maxRecDepth 100000
set_option maxHeartbeats 8000000
namespace Go.Proofs.YtceeleolddkibaaGreatDoor
open List Nat Go.Proofs.Tryz ChangeShapes WideShapes RowKit
def L9(e n g:Int)(r l:Value)(W:mq)(a:Value):Array Value:=(D e::D n::D g::r::l::(W.cells++[a])).toArray
section
variable {e n g:Int}{r l a:Value}{W:mq}
def afc:(L9 e n g r l W a).size=42:=rfl
def ah1:∀(j:Nat) (u:Value),(dU e n g r l W).toList[j]? =some u->(L9 e n g r l W a)[0+j]? =some u:=qW (m:=41) E
def aon{h I g':Int}{J l':Value}{W':mq}:dP (L9 e n g r l W a) 0 (dU h I g' J l' W').toList=L9 h I g' J l' W' a:=by
 apply Bc.1;rw[jr _ _ _ (by rw[afc];show 0+41<=42;omega)];rfl
end
def rZ(g:Nat)(Q:Qd)(an:List kg)(A1:Option Addr)(c1:Nat)(A2:Option Addr)(c2:Nat)(A3:Option Addr)(c3:Nat)(fs:List Nf):List Nf:=
 (.Pj g (L9 Q.ep Q.nx Q.gv (.slice A1 Q.ready.length c1) (.slice A2 Q.cB.length c2) Q.ws (.slice A3 an.length c3)) 194)::(.dB 2 A1 Q.ready.length ((Q.ready).flatMap iK.cells))::(.dB 4 A2 Q.cB.length ((Q.cB).flatMap Ls.cells))::(.own 109 4 (.slice A3 an.length c3) an.length ((an).flatMap kg.cells))::fs
def aoo(B:Nat)(w0:World)(g:Nat)(fs:List Nf)(an:List kg)(r:Qd×kg×Bool×Int)(e:Ending)(w':World):Prop:=
 ((r.2.2.2=0/\r.2.2.1=true)->e=.returned (.bool true)/\ ∃A1 c1 A2 c2 A3 c3,St B w0 w' (rZ g r.1 (an++[r.2.1]) A1 c1 A2 c2 A3 c3 fs))/\(¬(r.2.2.2=0/\r.2.2.1=true)->e=.returned (.bool false)/\St B w0 w' fs)
def ajL(w:World)(r:Qd×List kg×Int)(e:Ending)(w':World):Prop:=
 (r.2.2=0-> ∃g A1 c1 A2 c2 A3 c3,e=.returned (.tuple #[pV g 0,D 0])/\St w.heap.size w w' (rZ g r.1 r.2.1 A1 c1 A2 c2 A3 c3 []))/\(r.2.2≠0->e=.returned (.tuple #[.pointer none,D r.2.2])/\Below w.heap.size w w')
def abt(w:World)(r:Qd×List kg×Int)(e:Ending)(w':World):Prop:= ∃A1 c1 A2 c2,
 e=.returned (.tuple #[.agg (dU r.1.ep r.1.nx r.1.gv (.slice A1 r.1.ready.length c1) (.slice A2 r.1.cB.length c2) r.1.ws),D r.2.2])/\
 St w.heap.size w w' [.dB 2 A1 r.1.ready.length (r.1.ready.flatMap iK.cells),.dB 4 A2 r.1.cB.length (r.1.cB.flatMap Ls.cells)]
def Yy(w:World)(r:Qd×List kg×Int)(e:Ending)(w':World):Prop:= ∃A c,
 e=.returned (.tuple #[.slice A r.2.1.length c,D r.2.2])/\St w.heap.size w w' [.dB 4 A r.2.1.length (r.2.1.flatMap kg.cells)]
def afd{B g c1 c2 c3:Nat}{w0 w:World}{fs:List Nf}{A1 A2 A3:Option Addr}{Q:Qd}{an:List kg}{x:Ev}(S:St B w0 w (rZ g Q an A1 c1 A2 c2 A3 c3 fs))(hq:Q.ready.length+Q.cB.length<=501)(ha:an.length<=2000):
 Calls prog 108 #[pV g 0,.agg #[D x.kind,D x.Pv,D x.id,D x.body,D x.Qs,D x.Qz]] w (aoo B w0 g fs an (jN Q x)):=by
 unfold rZ at S;obtain⟨R,hR⟩:∃R,jN Q x=R:=⟨_,E⟩;refine iW 40 func108 ?_;refine cw [0,1] ?_;refine zN 2 ?_;refine jM S ?_;intro b1 w2 S3;refine zN 3 ?_;refine pW (X:=Nat×Nat×(Option Addr)×Nat×(Option Addr)×Nat) (λM=>[(0,pV g 0),(4,.bool false),(5,pV M.1 0),(6,pV M.2.1 0),(7,.bool R.2.2.1),(8,D R.2.2.2)]) (λM wr=>St B w0 wr ((.Pj M.2.1 #[D R.2.1.code,D R.2.1.iB,D R.2.1.Qz,D R.2.1.body] 109)::(.Pj M.1 (dU R.1.ep R.1.nx R.1.gv (.slice M.2.2.1 R.1.ready.length M.2.2.2.1) (.slice M.2.2.2.2.1 R.1.cB.length M.2.2.2.2.2) R.1.ws) 178)::(.dB 2 M.2.2.1 R.1.ready.length ((R.1.ready).flatMap iK.cells))::(.dB 4 M.2.2.2.2.1 R.1.cB.length ((R.1.cB).flatMap Ls.cells))::(.Pj b1 #[D x.kind,D x.Pv,D x.id,D x.body,D x.Qs,D x.Qz] 53)::(.Pj g (L9 Q.ep Q.nx Q.gv (.slice A1 Q.ready.length c1) (.slice A2 Q.cB.length c2) Q.ws (.slice A3 an.length c3)) 194)::(.dB 2 A1 Q.ready.length ((Q.ready).flatMap iK.cells))::(.dB 4 A2 Q.cB.length ((Q.cB).flatMap Ls.cells))::(.own 109 4 (.slice A3 an.length c3) an.length ((an).flatMap kg.cells))::fs)) ?_ ?_
 ·have S4:=S3.drew;refine aO 17 S4 [] ?_;refine aP 3 ?_;refine ak (v:=.agg (dU Q.ep Q.nx Q.gv (.slice A1 Q.ready.length c1) (.slice A2 Q.cB.length c2) Q.ws)) 3 E S4 (λ_ Sx8=>(ay E E (eZ (cs:=(dU Q.ep Q.nx Q.gv (.slice A1 Q.ready.length c1) (.slice A2 Q.cB.length c2) Q.ws).toList) (St.rg 1 Sx8 E (ah1))))) ?_;refine eH ?_;refine Wm (n:=11) (r:=5) (s:=11) (t:=12) kQ ?_ ?_ ?_
  ·have HD:=λA1 A2 c1 c2 w h1 J=>zT Q.ep Q.nx Q.gv x.kind x.Pv x.id x.body x.Qs x.Qz A1 A2 c1 c2 Q.ready Q.cB Q.ws w h1 J hQ hQ;rw[show jN ⟨Q.ep,Q.nx,Q.gv,Q.ready,Q.cB,Q.ws⟩ ⟨x.kind,x.Pv,x.id,x.body,x.Qs,x.Qz⟩=R from hR]at HD;refine lN 5 E eQ (HD A1 A2 c1 c2 _ (St.dB 2 S4 E) (St.dB 3 S4 E)) ?_;rintro _ OE ⟨A10,c11,A12,c13,rfl,T16⟩;refine⟨_,E,?_⟩;have ku:=S4.ext T16 E;clear HD;refine aP 6 ?_;refine jv (n:=5) (r:=11) (s:=12) kQ ?_ ?_
   ·refine lH (i:=11) E E (V:=λb=>pV b 0) (row:=dU 0 0 0 (.slice none 0 0) (.slice none 0 0) kX) (t:=178) ku (wn E) E E (jJ E (Tryz.zeroValue178 _) E) ?_;intro b22 Oz mG;refine eH ?_;refine bG 12 ?_;refine nQ 12 E mG wM ?_;intro b25 Rt xq;refine eH ?_;refine bG 13 ?_;refine snq 13 E 1 xq kQ ?_;intro w28 xL;refine eH ?_;refine bG 14 ?_;refine sn 14 E 0 xL kQ ?_;intro Za tN;refine aP 4 ?_;refine eO (b22,b25,A10,c11,A12,c13) ?_ vD;exact tN
   refine nQ 12 E ku wM ?_;intro b34 w35 wu;refine eH ?_;refine bG 11 ?_;refine lH (i:=11) E E (V:=λb=>pV b 0) (row:=dU 0 0 0 (.slice none 0 0) (.slice none 0 0) kX) (t:=178) wu (wn E) E E (jJ E (Tryz.zeroValue178 _) E) ?_;intro b37 w38 Ey;refine eH ?_;refine bG 13 ?_;refine snq 13 E 0 Ey kQ ?_;intro w40 J5;refine eH ?_;refine bG 14 ?_;refine sn 14 E 1 J5 kQ ?_;intro WG vU;refine aP 4 ?_;have zF:=vU.fJ [8,8,8,8,8,8,8,7,8];refine eO (b37,b34,A10,c11,A12,c13) ?_ vD;exact zF
  ·refine lH (i:=11) E E (V:=λb=>pV b 0) (row:=dU 0 0 0 (.slice none 0 0) (.slice none 0 0) kX) (t:=178) S4 (wn E) E E (jJ E (Tryz.zeroValue178 _) E) ?_;intro b47 Zf Z;refine eH ?_;refine jv (n:=10) (r:=5) (s:=12) kQ ?_ ?_
   ·have HD:=λA1 A2 c1 c2 w h1 J=>zT Q.ep Q.nx Q.gv x.kind x.Pv x.id x.body x.Qs x.Qz A1 A2 c1 c2 Q.ready Q.cB Q.ws w h1 J hQ hQ;rw[show jN ⟨Q.ep,Q.nx,Q.gv,Q.ready,Q.cB,Q.ws⟩ ⟨x.kind,x.Pv,x.id,x.body,x.Qs,x.Qz⟩=R from hR]at HD;refine lN 5 E eQ (HD A1 A2 c1 c2 _ (St.dB 3 Z E) (St.dB 4 Z E)) ?_;rintro _ w54 ⟨A50,c51,A52,c53,rfl,T56⟩;refine⟨_,E,?_⟩;have zh:=Z.ext T56 E;clear HD;refine aP 6 ?_;refine bG 12 ?_;refine nQ 12 E zh wM ?_;intro b62 w63 S64;refine eH ?_;refine bG 13 ?_;refine snq 13 E 3 S64 kQ ?_;intro w65 Jq;refine eH ?_;refine bG 14 ?_;refine sn 14 E 0 Jq kQ ?_;intro w67 Fu;refine aP 4 ?_;have wo:=Fu.fJ [8,8,8,8,8,7,7,8,8];refine eO (b47,b62,A50,c51,A52,c53) ?_ vD;exact wo
   refine nQ 12 E Z wM ?_;intro b72 w73 Ru;refine eH ?_;refine bG 5 ?_;have HD:=λA1 A2 c1 c2 w h1 J=>zT Q.ep Q.nx Q.gv x.kind x.Pv x.id x.body x.Qs x.Qz A1 A2 c1 c2 Q.ready Q.cB Q.ws w h1 J hQ hQ;rw[show jN ⟨Q.ep,Q.nx,Q.gv,Q.ready,Q.cB,Q.ws⟩ ⟨x.kind,x.Pv,x.id,x.body,x.Qs,x.Qz⟩=R from hR]at HD;refine lN 5 E eQ (HD A1 A2 c1 c2 _ (St.dB 4 Ru E) (St.dB 5 Ru E)) ?_;rintro _ w79 ⟨A75,c76,A77,c78,rfl,T81⟩;refine⟨_,E,?_⟩;have EF:=Ru.ext T81 E;clear HD;refine aP 6 ?_;refine bG 13 ?_;refine snq 13 E 3 EF kQ ?_;intro w87 Ql;refine eH ?_;refine bG 14 ?_;refine sn 14 E 2 Ql kQ ?_;intro w89 Vf;refine aP 4 ?_;have F6:=Vf.fJ [8,8,8,8,8,6,6,8,8];refine eO (b47,b72,A75,c76,A77,c78) ?_ vD;exact F6
  refine nQ 12 E S4 wM ?_;intro b94 w95 EG;refine eH ?_;refine jv (n:=10) (r:=5) (s:=11) kQ ?_ ?_
  ·have HD:=λA1 A2 c1 c2 w h1 J=>zT Q.ep Q.nx Q.gv x.kind x.Pv x.id x.body x.Qs x.Qz A1 A2 c1 c2 Q.ready Q.cB Q.ws w h1 J hQ hQ;rw[show jN ⟨Q.ep,Q.nx,Q.gv,Q.ready,Q.cB,Q.ws⟩ ⟨x.kind,x.Pv,x.id,x.body,x.Qs,x.Qz⟩=R from hR]at HD;refine lN 5 E eQ (HD A1 A2 c1 c2 _ (St.dB 3 EG E) (St.dB 4 EG E)) ?_;rintro _ arC ⟨A97,c98,A99,aDP,rfl,aDQ⟩;refine⟨_,E,?_⟩;have uz:=EG.ext aDQ E;clear HD;refine aP 6 ?_;refine bG 11 ?_;refine lH (i:=11) E E (V:=λb=>pV b 0) (row:=dU 0 0 0 (.slice none 0 0) (.slice none 0 0) kX) (t:=178) uz (wn E) E E (jJ E (Tryz.zeroValue178 _) E) ?_;intro aDR aDS aff;refine eH ?_;refine bG 13 ?_;refine snq 13 E 0 aff kQ ?_;intro afg yH;refine eH ?_;refine bG 14 ?_;refine sn 14 E 3 yH kQ ?_;intro arD tF;refine aP 4 ?_;have zu:=tF.fJ [8,8,8,8,8,7,7,7,8];refine eO (aDR,b94,A97,c98,A99,aDP) ?_ vD;exact zu
  refine lH (i:=11) E E (V:=λb=>pV b 0) (row:=dU 0 0 0 (.slice none 0 0) (.slice none 0 0) kX) (t:=178) EG (wn E) E E (jJ E (Tryz.zeroValue178 _) E) ?_;intro aDT awV O;refine eH ?_;refine bG 5 ?_;have HD:=λA1 A2 c1 c2 w h1 J=>zT Q.ep Q.nx Q.gv x.kind x.Pv x.id x.body x.Qs x.Qz A1 A2 c1 c2 Q.ready Q.cB Q.ws w h1 J hQ hQ;rw[show jN ⟨Q.ep,Q.nx,Q.gv,Q.ready,Q.cB,Q.ws⟩ ⟨x.kind,x.Pv,x.id,x.body,x.Qs,x.Qz⟩=R from hR]at HD;refine lN 5 E eQ (HD A1 A2 c1 c2 _ (St.dB 4 O E) (St.dB 5 O E)) ?_;rintro _ arE ⟨aDU,aDV,arF,arG,rfl,aDW⟩;refine⟨_,E,?_⟩;have VT:=O.ext aDW E;clear HD;refine aP 6 ?_;refine bG 13 ?_;refine snq 13 E 2 VT kQ ?_;intro awW Pw;refine eH ?_;refine bG 14 ?_;refine sn 14 E 3 Pw kQ ?_;intro afh EH;refine aP 4 ?_;have J7:=EH.fJ [8,8,8,8,8,6,6,7,8];refine eO (aDT,b94,aDU,aDV,arF,arG) ?_ vD;exact J7
 rintro⟨aDX,awX,ae3,ae4,VU,c146⟩ awY I
 try dsimp only at I
 refine bK (l':=[(0,pV g 0),(4,.bool false),(5,pV aDX 0),(6,pV awX 0),(7,.bool R.2.2.1),(8,D R.2.2.2)]) vD (aX (aX (aH (vm ?_))));by_cases h1:R.2.2.2=0
 ·refine zN 3 ?_
  cases J:R.2.2.1
  ·refine zN 13 ?_;rw[show jN Q x=R from hR];have zq:=I.bg [8,7,6,5,4,3,2,1,0];exact⟨λh=>av h (λh=>by rw[J]at h;exact av h.2 iQ),λ_=>⟨E,zq⟩⟩
  refine zN 13 ?_;refine kU 5 I kQ ?_ (h1:=by exact Nq E E) (hs:=by exact aon);intro awJ Rx;refine zN 3 ?_;have LY:=Rx.drew;refine gT 11 8 LY [8] ?_;iterate 6 refine jf ?_
  refine gF (m:=4) (r:=6) kQ ?_;refine oV (i:=6) E E (V:=λb=>.slice (aD b 0) 1 1) (row:= #[D R.2.1.code,D R.2.1.iB,D R.2.1.Qz,D R.2.1.body]) (t:=109) LY (wn E) E E (bq (vs:=[(0,.agg #[D R.2.1.code,D R.2.1.iB,D R.2.1.Qz,D R.2.1.body])]) E Aq kQ) ?_;intro aM5 aDY VW;refine jf ?_;refine gF (m:=3) (r:=7) kQ ?_;refine ny (i:=7) E E (news:=[D R.2.1.code,D R.2.1.iB,D R.2.1.Qz,D R.2.1.body]) (xs':=(an++[R.2.1]).flatMap kg.cells) 9 VW (wn E) E E E E E E (St.nO (xs:=[D R.2.1.code,D R.2.1.iB,D R.2.1.Qz,D R.2.1.body]) 0 VW E E E) Tryz.underlying155 atL E dQ (dh E) lQ Y (jV (enc:=kg.cells) E E) ?_;intro awZ aw0 aw1 aJz aJA BP;refine jf ?_;refine gy kQ E E E ?_;refine zN 2 ?_;refine kU (row':=L9 R.1.ep R.1.nx R.1.gv (.slice ae3 R.1.ready.length ae4) (.slice VU R.1.cB.length c146) R.1.ws (.slice awZ (an.length+1) aw0)) 6 BP kQ ?_;intro arz Pp;refine zQ ?_;refine jY ?_;refine zN 8 ?_;rw[show jN Q x=R from hR];have ZR:=Pp.bg [8,7,5,2,1,0];have arH:=ZR.fJ [3,2,2,3];have hal:(an++[R.2.1]).length=an.length+1:=by simp
  refine⟨λ_=>⟨E,ae3,ae4,VU,c146,awZ,aw0,?_⟩,λh=>av ⟨h1,J⟩ h⟩;unfold rZ;rw[hal];exact arH
 refine zN 16 ?_;rw[show jN Q x=R from hR];have arA:=I.bg [8,7,6,5,4,3,2,1,0];exact⟨λh=>av h (λh=>h1 h.1),λ_=>⟨E,arA⟩⟩
def OG{l:List Ev}(h:¬(aK l).2.2=0):(aK l).1=fU/\(aK l).2.1=[]:=by
 by_cases I:2000<l.length
 ·rw[Rq I];exact⟨E,E⟩
 cases J:jh fU [] l with
 |none=>rw[Nt I J];exact⟨E,E⟩
 |some r=>rw[Iu I J]at h;exact av E h
def OH(A:Option Addr)(c:Nat)(l:List Ev)(w:World)(h:Rd w w.heap.size 6 A l.length (bT l))(hl:l.length<=1152921504606846976):
 Calls prog 94 #[.slice A l.length c] w (ajL w (aK l)):=by
 have S:=(St.start w).dG h;refine iW 24 func94 ?_;refine cw [0] ?_;refine zN 11 ?_;by_cases h1:2000< (l.length:Int)
 ·refine zN 13 ?_;rw[Rq Y];exact⟨λh=>av h dQ,λ_=>⟨E,S.QM⟩⟩
 refine zN 2 ?_;refine ai5 (vv (v:=.agg (L9 0 0 0 (.slice none 0 0) (.slice none 0 0) kX (.slice none 0 0))) yz ?_);refine jM S ?_;intro b2 w3 S4;refine zN 12 ?_;have S5:=aG (s:=2) (aG (s:=4) (S4.nil 109 4));have S6:St w.heap.size w w3 [_,_,_,_,_]:=S5.re [3,0,1,2,4] dQ;refine fV (X:=Nat×Qd×(List kg)×(Option Addr)×Nat×(Option Addr)×Nat×(Option Addr)×Nat) (λI=>[(2,.pointer none),(3,D 0),(4,pV b2 0),(12,.slice A l.length c),(13,D (l.length:Int)),(14,D (I.1:Int))]) (λI wr=>(I.1<=l.length)/\(jh fU [] l=jh I.2.1 I.2.2.1 (l.drop I.1))/\(I.2.1.ready.length+I.2.1.cB.length<=501)/\(I.2.2.1.length=I.1)/\St w.heap.size w wr [.Pj b2 (L9 I.2.1.ep I.2.1.nx I.2.1.gv (.slice I.2.2.2.1 I.2.1.ready.length I.2.2.2.2.1) (.slice I.2.2.2.2.2.1 I.2.1.cB.length I.2.2.2.2.2.2.1) I.2.1.ws (.slice I.2.2.2.2.2.2.2.1 I.2.2.1.length I.2.2.2.2.2.2.2.2)) 194,.dB 2 I.2.2.2.1 I.2.1.ready.length ((I.2.1.ready).flatMap iK.cells),.dB 4 I.2.2.2.2.2.1 I.2.1.cB.length ((I.2.1.cB).flatMap Ls.cells),.own 109 4 (.slice I.2.2.2.2.2.2.2.1 I.2.2.1.length I.2.2.2.2.2.2.2.2) I.2.2.1.length ((I.2.2.1).flatMap kg.cells),.rd 6 A l.length ((l).flatMap Ev.cells)]) (λI=>l.length-I.1) (0,fU,[],none,0,none,0,none,0) ?_ ?_ ?_
 ·exact⟨aC _,E,(by simp[fU]),E,S6⟩
 ·exact vD
 rintro⟨k,Q,an,A1,c1,A2,c2,A3,c3⟩ w7 ⟨hi9,M,Px,aw2,S8⟩
 try dsimp only at hi9 M Px aw2 S8
 refine bK (l':=[(2,.pointer none),(3,D 0),(4,pV b2 0),(12,.slice A l.length c),(13,D (l.length:Int)),(14,D (k:Int))]) vD (aX (aH ?_));by_cases h13:(k:Int)< (l.length:Int)
 ·refine zN 11 ?_;obtain⟨b14,o15,rfl⟩:=Rd.addr (St.rd 4 S8 E) Y;obtain⟨J,Z⟩:=GX k (St.rd 4 S8 E) Y;refine vv (mY k) ?_;refine vv (ay E E (eZ (cs:=Ev.cells J) (Rd.Al (St.rd 4 S8 E) (λ_ _ h=>dw (enc:=Ev.cells) (sz:=6) (λ_=>E) Z h)))) ?_;refine iL S8 aem ?_;intro b18 J4 sU;refine sa 0 sU kQ ?_;intro Jm lY;refine zN 6 ?_;have rJ:St w.heap.size w Jm [_,_,_,_,_,_]:=lY.re [1,2,3,4,0,5] dQ;obtain⟨R,hR⟩:∃R,jN Q J=R:=⟨_,E⟩;have HA:=afd (fs:=[.Pj b18 #[D J.kind,D J.Pv,D J.id,D J.body,D J.Qs,D J.Qz] 53,.rd 6 (aD b14 o15) l.length ((l).flatMap Ev.cells)]) (x:=J) (show St _ _ _ (rZ _ _ _ _ _ _ _ _ _ _)from rJ) Px Y;rw[hR]at HA;by_cases O:R.2.2.2=0/\R.2.2.1=true
  ·refine eB eQ (HA.mono λ_ _ h=>h.1 O) ?_;rintro _ RD ⟨rfl,A26,c27,A28,c29,A30,c31,nC⟩;refine⟨_,E,?_⟩;clear HA;refine zN 8 ?_;refine vv (v:=D ((k+1:Nat):Int)) jB ?_;refine zN 2 ?_;have uh:St w.heap.size w RD [_,_,_,_,_]:=nC.re [0,1,2,3,5] dQ;refine bQ (k+1,R.1,an++[R.2.1],A26,c27,A28,c29,A30,c31) ?_ vD (by first|omega|(dsimp only;omega));exact⟨uQ,(by dsimp only;rw[M,Yf Z (by rw[hR];exact O.1) (by rw[hR];exact O.2),hR]),by dsimp only;exact hR▸ahV (by rw[hR];exact O.1),(by dsimp only;rw[aY,aw2];rfl),uh⟩
  refine eB eQ (HA.mono λ_ _ h=>h.2 O) ?_;rintro _ w33 ⟨rfl,uO⟩;refine⟨_,E,?_⟩;clear HA;refine zN 17 ?_;rw[Nt Y (by rw[M];exact Yg Z (by rw[hR];exact O))];exact⟨λh=>av h dQ,λ_=>⟨E,uO.QM⟩⟩
 refine zN 19 ?_;have J5:St w.heap.size w w7 [_,_,_,_]:=S8.re [0,1,2,3] dQ;rw[Iu (r:=(Q,an)) Y (by rw[M];exact abd Y)];exact⟨λ_=>⟨b2,A1,c1,A2,c2,A3,c3,E,J5⟩,λh=>av E h⟩
def Jr(A:Option Addr)(c:Nat)(l:List Ev)(w:World)(h:Rd w w.heap.size 6 A l.length (bT l))(hl:l.length<=1152921504606846976):
 Calls prog 77 #[.slice A l.length c] w (abt w (aK l)):=by
 have S:=(St.start w).dG h;refine iW 19 func77 ?_;refine cw [0] ?_;refine zN 2 ?_;refine mE (V:=λb=>pV b 0) (row:=dU 0 0 0 (.slice none 0 0) (.slice none 0 0) kX) (t:=178) S (wn E) E E (jJ E (Tryz.zeroValue178 _) E) ?_;intro b1 w2 M;refine zN 6 ?_;have HT:=λw h=>OH A c l w h hl;by_cases ht:(aK l).2.2=0
 ·refine eB eQ ((HT _ (St.rd 1 M E)).mono λ_ _ h=>h.1 ht) ?_;rintro _ w4 ⟨b7,A8,c9,I,J,O,Z,rfl,T6⟩;refine⟨_,E,?_⟩;unfold rZ at T6;have S5:=M.ext T6 E;clear HT T6 M;change St _ _ _ [.Pj b7 (L9 ((aK l).1.ep) ((aK l).1.nx) ((aK l).1.gv) (.slice A8 ((aK l).1.ready.length) c9) (.slice I ((aK l).1.cB.length) J) ((aK l).1.ws) (.slice O ((aK l).2.1.length) Z)) 194,.dB 2 A8 ((aK l).1.ready.length) (((aK l).1.ready).flatMap iK.cells),.dB 4 I ((aK l).1.cB.length) (((aK l).1.cB).flatMap Ls.cells),.own 109 4 (.slice O ((aK l).2.1.length) Z) ((aK l).2.1.length) (((aK l).2.1).flatMap kg.cells),.Pj b1 (dU 0 0 0 (.slice none 0 0) (.slice none 0 0) kX) 178,.rd 6 A l.length ((l).flatMap Ev.cells)]at S5;refine zN 22 ?_;refine vv (ay E E (eZ (cs:=(dU ((aK l).1.ep) ((aK l).1.nx) ((aK l).1.gv) (.slice A8 ((aK l).1.ready.length) c9) (.slice I ((aK l).1.cB.length) J) ((aK l).1.ws)).toList) (St.rg 0 S5 E (ah1)))) ?_;refine saq 4 S5 kQ ?_;intro OE ku;refine zN 5 ?_;have rX:St w.heap.size w OE [_,_]:=ku.re [1,2] dQ;refine⟨A8,c9,I,J,?_,rX⟩;rw[ht];rfl
 refine eB eQ ((HT _ (St.rd 1 M E)).mono λ_ _ h=>h.2 ht) ?_;rintro _ Qh ⟨rfl,T19⟩;refine⟨_,E,?_⟩;have uD:=M.on T19;clear HT T19 M;change St _ _ _ [.Pj b1 (dU 0 0 0 (.slice none 0 0) (.slice none 0 0) kX) 178,.rd 6 A l.length ((l).flatMap Ev.cells)]at uD;refine zN 13 ?_;refine Fa (vv (v:=.agg (dU 0 0 0 (.slice none 0 0) (.slice none 0 0) kX)) yz ?_);refine zQ ?_;refine saq 0 uD kQ ?_;intro w20 yj;refine zN 6 ?_;have lY:=yj.bg [1,0];have hz:=OG ht;refine⟨none,0,none,0,?_,?_⟩
 · rw[hz.1];rfl
 · rw[hz.1];exact Nv lY
def adR(A:Option Addr)(c:Nat)(l:List Ev)(w:World)(h:Rd w w.heap.size 6 A l.length (bT l))(hl:l.length<=1152921504606846976):
 Calls prog 66 #[.slice A l.length c] w (Yy w (aK l)):=by
 have S:=(St.start w).dG h;refine iW 18 func66 ?_;refine cw [0] ?_;refine zN 9 ?_;have HT:=λw h=>OH A c l w h hl;by_cases J:(aK l).2.2=0
 ·refine eB eQ ((HT _ (St.rd 0 S E)).mono λ_ _ h=>h.1 J) ?_;rintro _ w1 ⟨b4,A5,c6,A7,c8,A9,M,rfl,O⟩;refine⟨_,E,?_⟩;unfold rZ at O;have S2:=S.ext O E;clear HT O S;refine zN 29 ?_;have Z:St w.heap.size w w1 [_]:=S2.re [3] dQ;have rA:=Z.bU 0 E;refine⟨A9,M,?_,rA⟩;rw[J];rfl
 refine eB eQ ((HT _ (St.rd 0 S E)).mono λ_ _ h=>h.2 J) ?_;rintro _ Hq ⟨rfl,I⟩;refine⟨_,E,?_⟩;have oJ:=S.on I;clear HT I S;refine zN 25 ?_;have rX:=oJ.bg [0];have hz:=OG J;refine⟨none,0,?_,?_⟩
 · rw[hz.2];rfl
 · rw[hz.2];exact aG rX
def mU(w:World)(r:bF×Int)(e:Ending)(w':World):Prop:= ∃A c,∃_:r.1.JU.length<=c,e=.returned (.tuple #[.agg #[D r.1.GR,D r.1.ep,D r.1.fr,D r.1.tg,D r.1.rd,.slice A r.1.JU.length c],D r.2])/\St w.heap.size w w' [.dB 6 A r.1.JU.length (bT r.1.JU)]
def afj(w:World)(r:bF×kg×Bool×Int)(e:Ending)(w':World):Prop:= ∃A c,∃_:r.1.JU.length<=c,e=.returned (.tuple #[.agg #[D r.1.GR,D r.1.ep,D r.1.fr,D r.1.tg,D r.1.rd,.slice A r.1.JU.length c],r.2.1.val,.bool r.2.2.1,D r.2.2.2])/\St w.heap.size w w' [.dB 6 A r.1.JU.length (bT r.1.JU)]
def WI(w:World)(r:List Ev×Bool×Int)(e:Ending)(w':World):Prop:= ∃A c,∃_:r.1.length<=c,e=.returned (.tuple #[.slice A r.1.length c,.bool r.2.1,D r.2.2])/\St w.heap.size w w' [.dB 6 A r.1.length (bT r.1)]
def WJ(w:World)(ro ep fr tg rd:Int)(l:List Ev)(e:Ending)(w':World):Prop:= ∃A c,e=.returned (.agg #[D ro,D ep,D fr,D tg,D rd,.slice A l.length c])/\St w.heap.size w w' [.own 53 6 (.slice A l.length c) l.length (bT l)]
def mV(n:Int)(w:World):
 Calls tP 67 #[D n] w (Jl w (decide (0<=n/\n<5))):=by
 have S:=St.start w;refine iW 9 func67 ?_;refine cw [0] ?_;refine zN 8 ?_;by_cases h1:0<=n
 ·refine zN 3 ?_;by_cases h:n<5
  ·refine zN 7 ?_;exact⟨reT Y,S.QM⟩
  refine zN 7 ?_;exact⟨CF Y,S.QM⟩
 refine zN 10 ?_;exact⟨CF Y,S.QM⟩
def Yz(ro ep fr tg rd:Int)(A:Option Addr)(c:Nat)(l:List Ev)(w:World)(h:Rd w w.heap.size 6 A l.length (bT l))(hl:l.length<=1152921504606846976):
 Calls tP 76 #[.agg #[D ro,D ep,D fr,D tg,D rd,.slice A l.length c]] w (Jl w (decide (bP ⟨ro,ep,fr,tg,rd,l⟩))):=by
 have S:=(St.start w).dG h;refine iW 110 func76 ?_;refine cw [0] ?_;refine zN 2 ?_;refine jM S ?_;intro b1 w2 I;refine zN 8 ?_;by_cases h4:ro=0
 ·refine zN 8 ?_;by_cases h5:0<=ep
  ·refine zN 4 ?_;by_cases h6:ep<=1048576
   ·refine zN 5 ?_;by_cases h7:fr=0
    ·refine zN 5 ?_;by_cases h8:tg=0
     ·refine zN 5 ?_;by_cases h9:rd=0
      ·refine zN 6 ?_;by_cases h10:(l.length:Int)=0
       ·refine zN 8 ?_;exact⟨reT (by unfold bP;dsimp only;omega),I.QM⟩
       refine zN 8 ?_;exact⟨CF (by unfold bP;dsimp only;omega),I.QM⟩
      refine zN 14 ?_;exact⟨CF (by unfold bP;dsimp only;omega),I.QM⟩
     refine zN 19 ?_;exact⟨CF (by unfold bP;dsimp only;omega),I.QM⟩
    refine zN 24 ?_;exact⟨CF (by unfold bP;dsimp only;omega),I.QM⟩
   refine zN 29 ?_;exact⟨CF (by unfold bP;dsimp only;omega),I.QM⟩
  refine zN 33 ?_;exact⟨CF (by unfold bP;dsimp only;omega),I.QM⟩
 refine zN 11 ?_;by_cases h11:ep<1
 ·refine zN 17 ?_;exact⟨CF (by unfold bP;dsimp only;omega),I.QM⟩
 refine zN 4 ?_;by_cases h12:1048576<ep
 ·refine zN 13 ?_;exact⟨CF (by unfold bP;dsimp only;omega),I.QM⟩
 refine zN 17 ?_;by_cases h13:ro=1
 ·refine zN 9 ?_;by_cases h14:fr=0
  ·refine zN 4 ?_;by_cases h15:tg=0
   ·refine zN 5 ?_;by_cases h16:rd=0
    ·refine zN 9 ?_;exact⟨reT (by unfold bP;dsimp only;omega),I.QM⟩
    refine zN 9 ?_;exact⟨CF (by unfold bP;dsimp only;omega),I.QM⟩
   refine zN 14 ?_;exact⟨CF (by unfold bP;dsimp only;omega),I.QM⟩
  refine zN 18 ?_;exact⟨CF (by unfold bP;dsimp only;omega),I.QM⟩
 refine zN 7 ?_;by_cases h17:ro=2
 ·refine zN 9 ?_;by_cases h18:fr=0
  ·refine zN 4 ?_;by_cases J:0<=tg/\tg<5
   ·have afk:=λ(w:World)=>mV tg w;rw[jU J]at afk;refine BI eQ (afk _) ?_;rintro _ Jm ⟨rfl,M⟩;refine⟨_,E,?_⟩;have lY:=I.on M;clear M I;refine zN 4 ?_;by_cases U3:0<=rd
    ·refine zN 5 ?_;by_cases xO:rd<=4
     ·refine zN 9 ?_;exact⟨reT (by unfold bP;dsimp only;omega),lY.QM⟩
     refine zN 9 ?_;exact⟨CF (by unfold bP;dsimp only;omega),lY.QM⟩
    refine zN 14 ?_;exact⟨CF (by unfold bP;dsimp only;omega),lY.QM⟩
   have aw4:=λ(w:World)=>mV tg w;rw[jc J]at aw4;refine BI eQ (aw4 _) ?_;rintro _ Rs ⟨rfl,O⟩;refine⟨_,E,?_⟩;have wm:=I.on O;clear O I;refine zN 18 ?_;exact⟨CF (by unfold bP;dsimp only;omega),wm.QM⟩
  refine zN 23 ?_;exact⟨CF (by unfold bP;dsimp only;omega),I.QM⟩
 refine zN 7 ?_;by_cases h30:ro=3
 ·refine zN 9 ?_;by_cases h31:fr=0
  ·refine zN 4 ?_;by_cases Z:0<=tg/\tg<5
   ·have aw6:=λ(w:World)=>mV tg w;rw[jU Z]at aw6;refine BI eQ (aw6 _) ?_;rintro _ w34 ⟨rfl,aw7⟩;refine⟨_,E,?_⟩;have Gc:=I.on aw7;clear aw7 I;refine zN 4 ?_;by_cases h37:rd=0
    ·refine zN 9 ?_;exact⟨reT (by unfold bP;dsimp only;omega),Gc.QM⟩
    refine zN 9 ?_;exact⟨CF (by unfold bP;dsimp only;omega),Gc.QM⟩
   have aw8:=λ(w:World)=>mV tg w;rw[jc Z]at aw8;refine BI eQ (aw8 _) ?_;rintro _ w39 ⟨rfl,aw9⟩;refine⟨_,E,?_⟩;have zG:=I.on aw9;clear aw9 I;refine zN 13 ?_;exact⟨CF (by unfold bP;dsimp only;omega),zG.QM⟩
  refine zN 18 ?_;exact⟨CF (by unfold bP;dsimp only;omega),I.QM⟩
 refine zN 7 ?_;by_cases h42:ro=4
 ·refine zN 9 ?_;by_cases axa:0<=fr/\fr<5
  ·have axb:=λ(w:World)=>mV fr w;rw[jU axa]at axb;refine eB eQ (axb _) ?_;rintro _ w45 ⟨rfl,ZN⟩;refine⟨_,E,?_⟩;have zF:=I.on ZN;clear ZN I;refine zN 3 ?_;by_cases h48:tg=0
   ·refine zN 5 ?_;by_cases h49:rd=0
    ·refine zN 9 ?_;exact⟨reT (by unfold bP;dsimp only;omega),zF.QM⟩
    refine zN 9 ?_;exact⟨CF (by unfold bP;dsimp only;omega),zF.QM⟩
   refine zN 14 ?_;exact⟨CF (by unfold bP;dsimp only;omega),zF.QM⟩
  have axc:=λ(w:World)=>mV fr w;rw[jc axa]at axc;refine eB eQ (axc _) ?_;rintro _ w51 ⟨rfl,axd⟩;refine⟨_,E,?_⟩;have rH:=I.on axd;clear axd I;refine zN 17 ?_;exact⟨CF (by unfold bP;dsimp only;omega),rH.QM⟩
 refine zN 15 ?_;exact⟨CF (by unfold bP;dsimp only;omega),I.QM⟩
def fF(ro ep fr tg rd:Int)(A:Option Addr)(c:Nat)(l:List Ev)(w:World)(h:Rd w w.heap.size 6 A l.length (bT l))(hl:l.length<=1152921504606846976):
 Calls tP 56 #[.agg #[D ro,D ep,D fr,D tg,D rd,.slice A l.length c]] w (ZM w (aA ⟨ro,ep,fr,tg,rd,l⟩)):=by
 have S:=(St.start w).dG h;refine iW 16 func56 ?_;refine cw [0] ?_;refine zN 2 ?_;refine jM S ?_;intro b1 w2 J;refine zN 7 ?_;have HC:=λ(w:World) (h:Rd w w.heap.size 6 A l.length (bT l))=>Yz ro ep fr tg rd A c l w h hl;by_cases hs:bP ⟨ro,ep,fr,tg,rd,l⟩
 ·rw[jU hs]at HC;refine eB eQ (HC _ (St.rd 1 J E)) ?_;rintro _ w4 ⟨rfl,M⟩;refine⟨_,E,?_⟩;have S5:=J.on M;clear M J;refine zN 11 ?_;refine eB eQ (Jr A c l _ (St.rd 1 S5 E) Y) ?_;rintro _ KM ⟨A7,c8,A9,c10,rfl,Z⟩;refine⟨_,E,?_⟩;have rA:=S5.ext Z E;refine zN 3 ?_;refine mE (V:=λb=>pV b 0) (row:=dU 0 0 0 (.slice none 0 0) (.slice none 0 0) kX) (t:=178) rA (wn E) E E (jJ E (Tryz.zeroValue178 _) E) ?_;intro b14 OI rX;refine saq 0 rX kQ ?_;intro Qh O;refine zN 6 ?_;by_cases h19:(aK l).2.2=0
  ·refine zN 13 ?_;exact⟨jl (by first|exact(oh ‹_› ‹_›).symm|exact(Nu ‹_›).symm|exact(TV (b:=⟨ro,ep,fr,tg,rd,l⟩) ‹_›).symm),O.QM⟩
  refine zN 12 ?_;exact⟨jl (by first|exact(oh ‹_› ‹_›).symm|exact(Nu ‹_›).symm|exact(TV (b:=⟨ro,ep,fr,tg,rd,l⟩) ‹_›).symm),O.QM⟩
 rw[jc hs]at HC;refine eB eQ (HC _ (St.rd 1 J E)) ?_;rintro _ w20 ⟨rfl,I⟩;refine⟨_,E,?_⟩;have yj:=J.on I;clear I J;refine zN 12 ?_;exact⟨jl (by first|exact(oh ‹_› ‹_›).symm|exact(Nu ‹_›).symm|exact(TV (b:=⟨ro,ep,fr,tg,rd,l⟩) ‹_›).symm),yj.QM⟩
def auJ{l k:List Ev}:l.flatMap Ev.cells++k.flatMap Ev.cells=(l++k).flatMap Ev.cells:=by simp
def om(A:Option Addr)(n c:Nat)(l:List Value)(w:World)(h:Rd w w.heap.size 6 A n l)(I:∀u∈l,u.oneCell'=true)(Z:n*48<=reachBytes):
 Calls tP 93 #[.slice A n c] w (kK w 53 6 n l):=by
 unfold reachBytes at Z;have S:=(St.start w).dG h;refine iW 8 func93 ?_;refine cw [0] ?_;refine zN 9 ?_
 cases A with
 |none=>
  obtain⟨rfl,rfl⟩:=LQ h;refine vv (v:=.bool true) (cO E E E (yQ underlying56)) ?_;refine zN 11 ?_;exact kK.of (Below.refl _ _) (kC _ _ _ _)
 |some a=>
  refine vv (v:=.bool false) (cO E E E (yQ underlying56)) ?_;refine zN 7 ?_;refine uL (V:=λb=>.slice (aD b 0) 0 0) (row:= #[]) (t:=53) (n:=0) (s:=6) (xs:=[]) S (wn E) E E (bq (vs:=[]) E trivial kQ) iQ (aC _) E ?_;intro b1 w2 M;refine zQ ?_;refine eu (news:=l) (xs':=l) 0 M (wn E) E E E E E E (St.rd 1 M E) underlying56 tZ E dQ I lQ Y E ?_;intro A4 c5 w6 hc8 Ct S7;refine zN 5 ?_;have J:=S7.bg [1];have O:=J.own 0 E;simp only[Nat.zero_add]at O⊢;exact kK.of J.QM O
def u7(ro ep fr tg rd:Int)(A:Option Addr)(c:Nat)(l:List Ev)(A':Option Addr)(c':Nat)(k:List Ev)(w:World)(h:Rd w w.heap.size 6 A l.length (bT l))(h':Rd w w.heap.size 6 A' k.length (bT k))(hb:(l.length+k.length)*48<=reachBytes):
 Calls tP 65 #[.agg #[D ro,D ep,D fr,D tg,D rd,.slice A l.length c],.slice A' k.length c'] w (WJ w ro ep fr tg rd (l++k)):=by
 have S:=((St.start w).dG h').dG h;clear h h';unfold reachBytes at hb;refine iW 12 func65 ?_;refine cw [0,1] ?_;refine zN 2 ?_;refine jM S ?_;intro b1 w2 S3;refine iL S3 iI ?_;intro b4 w5 S6;refine zN 6 ?_;refine eB eQ (om A l.length c _ _ (St.rd 2 S6 E) (gV l) hQ) ?_;rintro _ KM ⟨A7,c8,rfl,O,I⟩;refine⟨_,E,?_⟩;have J:=S6.xB O I;refine zQ ?_;refine eu (news:=(k).flatMap Ev.cells) (xs':=(l++k).flatMap Ev.cells) 0 J (wn E) E E E E E E (St.rd 4 J E) underlying56 tZ E dQ (gV _) lQ Y (auJ) ?_;intro Z c14 OI hc17 hm18 rX;refine zQ ?_;refine KC 2 rX kQ ?_;intro J4 sU;refine zN 5 ?_;refine sa 1 sU kQ ?_;intro Jm lY;refine zN 4 ?_;have M:=lY.bg [4,3,2,1];have hl:(l++k).length=l.length+k.length:=aY;rw[<-hl]at M;exact⟨Z,c14,by rw[hl];rfl,M⟩
def kE(ro ep fr tg rd:Int)(A:Option Addr)(c:Nat)(l:List Ev)(w:World)(h:Rd w w.heap.size 6 A l.length (bT l))(I:l.length*48<=reachBytes):
 Calls tP 65 #[.agg #[D ro,D ep,D fr,D tg,D rd,.slice A l.length c],.slice none 0 0] w (WJ w ro ep fr tg rd l):=by
 have:=u7 ro ep fr tg rd A c l none 0 [] w h Rd.UZ (by simpa using I);rw[bI]at this;exact this
def OJ(ro ep fr tg rd:Int)(A:Option Addr)(c:Nat)(l:List Ev)(e:Int)(w:World)(h:Rd w w.heap.size 6 A l.length (bT l))(hb:l.length*48<=reachBytes):
 Calls prog 37 #[.agg #[D ro,D ep,D fr,D tg,D rd,.slice A l.length c],D e] w (mU w (jR ⟨ro,ep,fr,tg,rd,l⟩ e)):=by
 have S:=(St.start w).dG h;have O:=hb;unfold reachBytes at O;refine iW 35 func37 ?_;refine cw [0,1] ?_;refine zN 2 ?_;refine jM S ?_;intro b1 w2 S3;refine iL S3 iI ?_;intro b4 w5 S6;refine zN 7 ?_;refine Vm eQ S6 (fF ro ep fr tg rd A c l _ (St.rd 2 S6 E) Y) ?_;intro w7 I;refine zN 7 ?_;by_cases J:aA ⟨ro,ep,fr,tg,rd,l⟩=0
 ·have M:=(gB J).1;unfold bP at M;have Z:=iX (gB J).2;dsimp only at M Z;refine zN 8 ?_;by_cases h11:e<1
  ·refine zN 11 ?_;refine vv kF ?_;refine sa 0 I kQ ?_;intro w12 Rw;refine zN 7 ?_;have oJ:=Rw.bg [2,1,0];rw[show jR ⟨ro,ep,fr,tg,rd,l⟩ e=(⟨0,0,0,0,0,[]⟩,2)from by unfold jR;(try dsimp only);exact mW];exact⟨none,0,oG,E,aG oJ⟩
  refine zN 3 ?_;by_cases h15:1048576<e
  ·refine zN 8 ?_;refine vv kF ?_;refine sa 0 I kQ ?_;intro w16 zi;refine zN 7 ?_;have uD:=zi.bg [2,1,0];rw[show jR ⟨ro,ep,fr,tg,rd,l⟩ e=(⟨0,0,0,0,0,[]⟩,2)from by unfold jR;(try dsimp only);exact mW];exact⟨none,0,oG,E,aG uD⟩
  refine zN 10 ?_;by_cases h19:ro=0
  ·refine zN 10 ?_;by_cases h20:e<=ep
   ·refine zN 7 ?_;refine vv kF ?_;refine sa 0 I kQ ?_;intro Jm lY;refine zN 7 ?_;have rJ:=lY.bg [2,1,0];rw[show jR ⟨ro,ep,fr,tg,rd,l⟩ e=(⟨0,0,0,0,0,[]⟩,15)from by unfold jR;(try dsimp only);exact mW];exact⟨none,0,oG,E,aG rJ⟩
   refine zN 11 ?_;refine vv (v:=.agg #[D 1,D e,D 0,D 0,D 0,.slice none 0 0]) iE ?_;refine sa 0 I kQ ?_;intro RD nC;refine zN 5 ?_;have uE:=nC.bg [2,1,0];rw[show jR ⟨ro,ep,fr,tg,rd,l⟩ e=(⟨1,e,0,0,0,[]⟩,0)from by unfold jR;(try dsimp only);exact mW];exact⟨none,0,oG,E,aG uE⟩
  refine zN 7 ?_;refine vv kF ?_;refine sa 0 I kQ ?_;intro Rs wm;refine zN 7 ?_;have xL:=wm.bg [2,1,0];rw[show jR ⟨ro,ep,fr,tg,rd,l⟩ e=(⟨0,0,0,0,0,[]⟩,8)from by unfold jR;(try dsimp only);exact mW];exact⟨none,0,oG,E,aG xL⟩
 refine zN 7 ?_;refine vv kF ?_;refine zQ ?_;refine sa 0 I kQ ?_;intro Za tN;refine zN 7 ?_;have uh:=tN.bg [2,1,0];rw[show jR ⟨ro,ep,fr,tg,rd,l⟩ e=(⟨0,0,0,0,0,[]⟩,aA ⟨ro,ep,fr,tg,rd,l⟩)from by unfold jR;(try dsimp only);exact mW];exact⟨none,0,oG,E,aG uh⟩
def ajM(ro ep fr tg rd:Int)(A:Option Addr)(c:Nat)(l:List Ev)(t:Int)(w:World)(h:Rd w w.heap.size 6 A l.length (bT l))(hb:l.length*48<=reachBytes):
 Calls prog 51 #[.agg #[D ro,D ep,D fr,D tg,D rd,.slice A l.length c],D t] w (mU w (wh ⟨ro,ep,fr,tg,rd,l⟩ t)):=by
 have S:=(St.start w).dG h;have hb2:=hb;unfold reachBytes at hb2;refine iW 44 func51 ?_;refine cw [0,1] ?_;refine zN 2 ?_;refine jM S ?_;intro b1 w2 S3;refine iL S3 iI ?_;intro b4 w5 S6;refine zN 7 ?_;refine Vm eQ S6 (fF ro ep fr tg rd A c l _ (St.rd 2 S6 E) Y) ?_;intro w7 Z;refine zN 7 ?_;by_cases h10:aA ⟨ro,ep,fr,tg,rd,l⟩=0
 ·have hsh:=(gB h10).1;unfold bP at hsh;have hln:=iX (gB h10).2;dsimp only at hsh hln;refine zN 8 ?_;by_cases J:0<=t/\t<5
  ·have axe:=λ(w:World)=>mV t w;rw[jU J]at axe;refine eB eQ (axe _) ?_;rintro _ Hq ⟨rfl,M⟩;refine⟨_,E,?_⟩;have I:=Z.on M;clear M Z;refine zN 9 ?_;by_cases h16:ro=2
   ·refine zN 12 ?_;refine vv kF ?_;refine sa 0 I kQ ?_;intro Qh uD;refine zN 7 ?_;have xK:=uD.bg [2,1,0];rw[show wh ⟨ro,ep,fr,tg,rd,l⟩ t=(⟨0,0,0,0,0,[]⟩,12)from by unfold wh;(try dsimp only);exact mW];exact⟨none,0,oG,E,aG xK⟩
   refine zN 4 ?_;by_cases h20:ro=3
   ·refine zN 8 ?_;refine vv kF ?_;refine sa 0 I kQ ?_;intro Jm lY;refine zN 7 ?_;have rJ:=lY.bg [2,1,0];rw[show wh ⟨ro,ep,fr,tg,rd,l⟩ t=(⟨0,0,0,0,0,[]⟩,12)from by unfold wh;(try dsimp only);exact mW];exact⟨none,0,oG,E,aG rJ⟩
   refine zN 10 ?_;by_cases U3:ro=1
   ·refine zN 9 ?_;by_cases xO:ep=1048576
    ·refine zN 7 ?_;refine vv kF ?_;refine sa 0 I kQ ?_;intro Rt xq;refine zN 7 ?_;have wm:=xq.bg [2,1,0];rw[show wh ⟨ro,ep,fr,tg,rd,l⟩ t=(⟨0,0,0,0,0,[]⟩,14)from by unfold wh;(try dsimp only);exact mW];exact⟨none,0,oG,E,aG wm⟩
    refine zN 12 ?_;refine KC 1 I kQ ?_;intro w29 Ew;refine zQ ?_;refine KC 1 Ew kQ ?_;intro w31 uh;refine zN 5 ?_;refine eB eQ (kE 2 ep fr t rd A c l _ (St.rd 2 uh E) hb) ?_;rintro _ w35 ⟨A33,c34,rfl,T37⟩;refine⟨_,E,?_⟩;have wu:=uh.ext T37 E;refine sa 1 wu kQ ?_;intro w38 Ey;refine zN 5 ?_;have zG:=Ey.bg [3,2,1];have hcp:=(fE (zG.own 0 E)).1;have J5:=zG.bU 0 E;rw[show wh ⟨ro,ep,fr,tg,rd,l⟩ t=(⟨2,ep,fr,t,rd,l⟩,0)from by unfold wh;(try dsimp only);exact mW];exact⟨A33,c34,oG,E,J5⟩
   refine zN 7 ?_;refine vv kF ?_;refine sa 0 I kQ ?_;intro WG vU;refine zN 7 ?_;have Fq:=vU.bg [2,1,0];rw[show wh ⟨ro,ep,fr,tg,rd,l⟩ t=(⟨0,0,0,0,0,[]⟩,7)from by unfold wh;(try dsimp only);exact mW];exact⟨none,0,oG,E,aG Fq⟩
  have axf:=λ(w:World)=>mV t w;rw[jc J]at axf;refine eB eQ (axf _) ?_;rintro _ w46 ⟨rfl,O⟩;refine⟨_,E,?_⟩;have Cu:=Z.on O;clear O Z;refine zN 7 ?_;refine vv kF ?_;refine sa 0 Cu kQ ?_;intro w49 AA;refine zN 7 ?_;have yh:=AA.bg [2,1,0];rw[show wh ⟨ro,ep,fr,tg,rd,l⟩ t=(⟨0,0,0,0,0,[]⟩,2)from by unfold wh;(try dsimp only);exact mW];exact⟨none,0,oG,E,aG yh⟩
 refine zN 7 ?_;refine vv kF ?_;refine zQ ?_;refine sa 0 Z kQ ?_;intro w52 Az;refine zN 7 ?_;have xP:=Az.bg [2,1,0];rw[show wh ⟨ro,ep,fr,tg,rd,l⟩ t=(⟨0,0,0,0,0,[]⟩,aA ⟨ro,ep,fr,tg,rd,l⟩)from by unfold wh;(try dsimp only);exact mW];exact⟨none,0,oG,E,aG xP⟩
def aie(ro ep fr tg rd:Int)(A:Option Addr)(c:Nat)(l:List Ev)(hv:Int)(w:World)(h:Rd w w.heap.size 6 A l.length (bT l))(M:l.length*48<=reachBytes):
 Calls prog 86 #[.agg #[D ro,D ep,D fr,D tg,D rd,.slice A l.length c],D hv] w (mU w (bX ⟨ro,ep,fr,tg,rd,l⟩ hv)):=by
 have S:=(St.start w).dG h;have hb2:=M;unfold reachBytes at hb2;refine iW 55 func86 ?_;refine cw [0,1] ?_;refine zN 2 ?_;refine jM S ?_;intro b1 w2 S3;refine iL S3 iI ?_;intro b4 w5 S6;refine zN 7 ?_;refine Vm eQ S6 (fF ro ep fr tg rd A c l _ (St.rd 2 S6 E) Y) ?_;intro w7 I;refine zN 6 ?_;by_cases O:aA ⟨ro,ep,fr,tg,rd,l⟩=0
 ·have Z:=(gB O).1;unfold bP at Z;have hln:=iX (gB O).2;dsimp only at Z hln;refine zN 11 ?_;by_cases h11:ro=2
  ·refine zN 15 ?_;by_cases h12:hv<0
   ·refine zN 13 ?_;refine vv kF ?_;refine sa 0 I kQ ?_;intro Hq oJ;refine zN 6 ?_;have ku:=oJ.bg [2,1,0];rw[show bX ⟨ro,ep,fr,tg,rd,l⟩ hv=(⟨0,0,0,0,0,[]⟩,2)from by unfold bX;(try dsimp only);exact mW];exact⟨none,0,oG,E,aG ku⟩
   refine zN 6 ?_;by_cases h16:(l.length:Int)<hv
   ·refine zN 7 ?_;refine vv kF ?_;refine sa 0 I kQ ?_;intro Qh uD;refine zN 6 ?_;have xK:=uD.bg [2,1,0];rw[show bX ⟨ro,ep,fr,tg,rd,l⟩ hv=(⟨0,0,0,0,0,[]⟩,2)from by unfold bX;(try dsimp only);exact mW];exact⟨none,0,oG,E,aG xK⟩
   refine zN 24 ?_;by_cases h20:hv=(l.length:Int)
   ·refine zN 12 ?_;refine KC 1 I kQ ?_;intro Jm lY;refine zQ ?_;refine KC 1 lY kQ ?_;intro Oz mG;refine zN 6 ?_;refine eB eQ (kE 3 ep fr tg 0 A c l _ (St.rd 2 mG E) M) ?_;rintro _ Rs ⟨A25,c26,rfl,T29⟩;refine⟨_,E,?_⟩;have wm:=mG.ext T29 E;refine sa 1 wm kQ ?_;intro Za tN;refine zN 5 ?_;have uh:=tN.bg [3,2,1];have J:=(fE (uh.own 0 E)).1;have yS:=uh.bU 0 E;rw[show bX ⟨ro,ep,fr,tg,rd,l⟩ hv=(⟨3,ep,fr,tg,0,l⟩,0)from by unfold bX;(try dsimp only);exact mW];exact⟨A25,c26,oG,E,yS⟩
   refine zN 4 ?_;by_cases h34:rd=4
   ·refine zN 8 ?_;refine KC 1 I kQ ?_;intro w35 wu;refine zQ ?_;refine KC 1 wu kQ ?_;intro w37 Dg;refine zN 6 ?_;refine eB eQ (kE 3 ep fr tg 0 A c l _ (St.rd 2 Dg E) M) ?_;rintro _ w41 ⟨A39,c40,rfl,T43⟩;refine⟨_,E,?_⟩;have Hr:=Dg.ext T43 E;refine sa 1 Hr kQ ?_;intro U4 tO;refine zN 5 ?_;have zF:=tO.bg [3,2,1];have J:=(fE (zF.own 0 E)).1;have Cu:=zF.bU 0 E;rw[show bX ⟨ro,ep,fr,tg,rd,l⟩ hv=(⟨3,ep,fr,tg,0,l⟩,0)from by unfold bX;(try dsimp only);exact mW];exact⟨A39,c40,oG,E,Cu⟩
   refine zN 9 ?_;refine vv (v:=D (rd+1)) jB ?_;refine zQ ?_;refine KC 1 I kQ ?_;intro Zf yT;refine zN 6 ?_;refine eB eQ (kE ro ep fr tg (rd+1) A c l _ (St.rd 2 yT E) M) ?_;rintro _ w52 ⟨A50,c51,rfl,T54⟩;refine⟨_,E,?_⟩;have Az:=yT.ext T54 E;refine sa 1 Az kQ ?_;intro w55 Zg;refine zN 5 ?_;have yR:=Zg.bg [3,2,1];have J:=(fE (yR.own 0 E)).1;have Gd:=yR.bU 0 E;rw[show bX ⟨ro,ep,fr,tg,rd,l⟩ hv=(⟨ro,ep,fr,tg,rd+1,l⟩,0)from by unfold bX;(try dsimp only);exact mW];exact⟨A50,c51,oG,E,Gd⟩
  refine zN 4 ?_;by_cases h59:ro=3
  ·refine zN 11 ?_;by_cases h60:hv<0
   ·refine zN 13 ?_;refine vv kF ?_;refine sa 0 I kQ ?_;intro w61 MR;refine zN 6 ?_;have zD:=MR.bg [2,1,0];rw[show bX ⟨ro,ep,fr,tg,rd,l⟩ hv=(⟨0,0,0,0,0,[]⟩,2)from by unfold bX;(try dsimp only);exact mW];exact⟨none,0,oG,E,aG zD⟩
   refine zN 6 ?_;by_cases h64:(l.length:Int)<hv
   ·refine zN 7 ?_;refine vv kF ?_;refine sa 0 I kQ ?_;intro w65 Jq;refine zN 6 ?_;have xI:=Jq.bg [2,1,0];rw[show bX ⟨ro,ep,fr,tg,rd,l⟩ hv=(⟨0,0,0,0,0,[]⟩,2)from by unfold bX;(try dsimp only);exact mW];exact⟨none,0,oG,E,aG xI⟩
   refine zN 24 ?_;refine eB eQ (kE ro ep fr tg rd A c l _ (St.rd 2 I E) M) ?_;rintro _ w70 ⟨A68,c69,rfl,T72⟩;refine⟨_,E,?_⟩;have wo:=I.ext T72 E;refine sa 1 wo kQ ?_;intro w73 Ru;refine zN 5 ?_;have J6:=Ru.bg [3,2,1];have J:=(fE (J6.own 0 E)).1;have Qj:=J6.bU 0 E;rw[show bX ⟨ro,ep,fr,tg,rd,l⟩ hv=(⟨ro,ep,fr,tg,rd,l⟩,0)from by unfold bX;(try dsimp only);exact mW];exact⟨A68,c69,oG,E,Qj⟩
  refine zN 7 ?_;refine vv kF ?_;refine sa 0 I kQ ?_;intro w77 MV;refine zN 6 ?_;have F4:=MV.bg [2,1,0];rw[show bX ⟨ro,ep,fr,tg,rd,l⟩ hv=(⟨0,0,0,0,0,[]⟩,7)from by unfold bX;(try dsimp only);exact mW];exact⟨none,0,oG,E,aG F4⟩
 refine zN 6 ?_;refine vv kF ?_;refine zQ ?_;refine sa 0 I kQ ?_;intro w80 xJ;refine zN 6 ?_;have S82:=xJ.bg [2,1,0];rw[show bX ⟨ro,ep,fr,tg,rd,l⟩ hv=(⟨0,0,0,0,0,[]⟩,aA ⟨ro,ep,fr,tg,rd,l⟩)from by unfold bX;(try dsimp only);exact mW];exact⟨none,0,oG,E,aG S82⟩
def KU(ro ep fr tg rd:Int)(A:Option Addr)(c:Nat)(l:List Ev)(e f:Int)(w:World)(h:Rd w w.heap.size 6 A l.length (bT l))(hb:l.length*48<=reachBytes):
 Calls prog 83 #[.agg #[D ro,D ep,D fr,D tg,D rd,.slice A l.length c],D e,D f] w (mU w (dR ⟨ro,ep,fr,tg,rd,l⟩ e f)):=by
 have S:=(St.start w).dG h;have hb2:=hb;unfold reachBytes at hb2;refine iW 66 func83 ?_;refine cw [0,1,2] ?_;refine zN 2 ?_;refine jM S ?_;intro b1 w2 S3;refine iL S3 iI ?_;intro b4 w5 S6;refine zN 7 ?_;refine Vm eQ S6 (fF ro ep fr tg rd A c l _ (St.rd 2 S6 E) Y) ?_;intro w7 Z;refine zN 7 ?_;by_cases h10:aA ⟨ro,ep,fr,tg,rd,l⟩=0
 ·have hsh:=(gB h10).1;unfold bP at hsh;have hln:=iX (gB h10).2;dsimp only at hsh hln;refine zN 8 ?_;by_cases h11:e<1
  ·refine zN 16 ?_;refine vv kF ?_;refine sa 0 Z kQ ?_;intro w12 Rw;refine zN 7 ?_;have oJ:=Rw.bg [2,1,0];rw[show dR ⟨ro,ep,fr,tg,rd,l⟩ e f=(⟨0,0,0,0,0,[]⟩,2)from by unfold dR;(try dsimp only);exact mW];exact⟨none,0,oG,E,aG oJ⟩
  refine zN 3 ?_;by_cases h15:1048576<e
  ·refine zN 13 ?_;refine vv kF ?_;refine sa 0 Z kQ ?_;intro w16 zi;refine zN 7 ?_;have uD:=zi.bg [2,1,0];rw[show dR ⟨ro,ep,fr,tg,rd,l⟩ e f=(⟨0,0,0,0,0,[]⟩,2)from by unfold dR;(try dsimp only);exact mW];exact⟨none,0,oG,E,aG uD⟩
  refine zN 4 ?_;by_cases J:0<=f/\f<5
  ·have afk:=λ(w:World)=>mV f w;rw[jU J]at afk;refine BI eQ (afk _) ?_;rintro _ Jm ⟨rfl,M⟩;refine⟨_,E,?_⟩;have I:=Z.on M;clear M Z;refine zN 10 ?_;by_cases U3:ro=0
   ·refine zN 36 ?_;by_cases xO:e<=ep
    ·refine zN 7 ?_;refine vv kF ?_;refine sa 0 I kQ ?_;intro Rt xq;refine zN 7 ?_;have wm:=xq.bg [2,1,0];rw[show dR ⟨ro,ep,fr,tg,rd,l⟩ e f=(⟨0,0,0,0,0,[]⟩,15)from by unfold dR;(try dsimp only);exact mW];exact⟨none,0,oG,E,aG wm⟩
    refine zN 12 ?_;refine vv (v:=.agg #[D 4,D e,D f,D 0,D 0,.slice none 0 0]) iE ?_;refine sa 0 I kQ ?_;intro w29 Ew;refine zN 5 ?_;have tN:=Ew.bg [2,1,0];rw[show dR ⟨ro,ep,fr,tg,rd,l⟩ e f=(⟨4,e,f,0,0,[]⟩,0)from by unfold dR;(try dsimp only);exact mW];exact⟨none,0,oG,E,aG tN⟩
   refine zN 4 ?_;by_cases h32:ro=4
   ·refine zN 15 ?_;by_cases h33:ep=e
    ·refine zN 6 ?_;by_cases h34:fr=f
     ·refine zN 9 ?_;refine eB eQ (kE ro ep fr tg rd A c l _ (St.rd 2 I E) hb) ?_;rintro _ w37 ⟨A35,c36,rfl,T39⟩;refine⟨_,E,?_⟩;have Dg:=I.ext T39 E;refine sa 1 Dg kQ ?_;intro w40 J5;refine zN 7 ?_;have Hr:=J5.bg [3,2,1];have hcp:=(fE (Hr.own 0 E)).1;have vU:=Hr.bU 0 E;rw[show dR ⟨ro,ep,fr,tg,rd,l⟩ e f=(⟨ro,ep,fr,tg,rd,l⟩,0)from by unfold dR;(try dsimp only);exact mW];exact⟨A35,c36,oG,E,vU⟩
     refine zN 11 ?_;by_cases h44:e<=ep
     ·refine zN 7 ?_;refine vv kF ?_;refine sa 0 I kQ ?_;intro w45 zF;refine zN 7 ?_;have Cu:=zF.bg [2,1,0];rw[show dR ⟨ro,ep,fr,tg,rd,l⟩ e f=(⟨0,0,0,0,0,[]⟩,15)from by unfold dR;(try dsimp only);exact mW];exact⟨none,0,oG,E,aG Cu⟩
     refine zN 12 ?_;refine vv (v:=.agg #[D 4,D e,D f,D 0,D 0,.slice none 0 0]) iE ?_;refine sa 0 I kQ ?_;intro Zf yT;refine zN 5 ?_;have AA:=yT.bg [2,1,0];rw[show dR ⟨ro,ep,fr,tg,rd,l⟩ e f=(⟨4,e,f,0,0,[]⟩,0)from by unfold dR;(try dsimp only);exact mW];exact⟨none,0,oG,E,aG AA⟩
    refine zN 17 ?_;by_cases h51:e<=ep
    ·refine zN 7 ?_;refine vv kF ?_;refine sa 0 I kQ ?_;intro w52 Az;refine zN 7 ?_;have xP:=Az.bg [2,1,0];rw[show dR ⟨ro,ep,fr,tg,rd,l⟩ e f=(⟨0,0,0,0,0,[]⟩,15)from by unfold dR;(try dsimp only);exact mW];exact⟨none,0,oG,E,aG xP⟩
    refine zN 12 ?_;refine vv (v:=.agg #[D 4,D e,D f,D 0,D 0,.slice none 0 0]) iE ?_;refine sa 0 I kQ ?_;intro w55 Zg;refine zN 5 ?_;have yR:=Zg.bg [2,1,0];rw[show dR ⟨ro,ep,fr,tg,rd,l⟩ e f=(⟨4,e,f,0,0,[]⟩,0)from by unfold dR;(try dsimp only);exact mW];exact⟨none,0,oG,E,aG yR⟩
   refine zN 8 ?_;refine vv kF ?_;refine sa 0 I kQ ?_;intro w58 Ez;refine zN 7 ?_;have Gf:=Ez.bg [2,1,0];rw[show dR ⟨ro,ep,fr,tg,rd,l⟩ e f=(⟨0,0,0,0,0,[]⟩,8)from by unfold dR;(try dsimp only);exact mW];exact⟨none,0,oG,E,aG Gf⟩
  have axk:=λ(w:World)=>mV f w;rw[jc J]at axk;refine BI eQ (axk _) ?_;rintro _ w62 ⟨rfl,O⟩;refine⟨_,E,?_⟩;have zD:=Z.on O;clear O Z;refine zN 8 ?_;refine vv kF ?_;refine sa 0 zD kQ ?_;intro w65 Jq;refine zN 7 ?_;have xI:=Jq.bg [2,1,0];rw[show dR ⟨ro,ep,fr,tg,rd,l⟩ e f=(⟨0,0,0,0,0,[]⟩,2)from by unfold dR;(try dsimp only);exact mW];exact⟨none,0,oG,E,aG xI⟩
 refine zN 7 ?_;refine vv kF ?_;refine zQ ?_;refine sa 0 Z kQ ?_;intro w68 Df;refine zN 7 ?_;have CP:=Df.bg [2,1,0];rw[show dR ⟨ro,ep,fr,tg,rd,l⟩ e f=(⟨0,0,0,0,0,[]⟩,aA ⟨ro,ep,fr,tg,rd,l⟩)from by unfold dR;(try dsimp only);exact mW];exact⟨none,0,oG,E,aG CP⟩
def Js(ro ep fr tg rd:Int)(A:Option Addr)(c:Nat)(l:List Ev)(e:Int)(w:World)(h:Rd w w.heap.size 6 A l.length (bT l))(hb:l.length*48<=reachBytes):
 Calls prog 91 #[.agg #[D ro,D ep,D fr,D tg,D rd,.slice A l.length c],D e] w (mU w (gZ ⟨ro,ep,fr,tg,rd,l⟩ e)):=by
 have S:=(St.start w).dG h;have O:=hb;unfold reachBytes at O;refine iW 28 func91 ?_;refine cw [0,1] ?_;refine zN 2 ?_;refine jM S ?_;intro b1 w2 S3;refine iL S3 iI ?_;intro b4 w5 S6;refine zN 7 ?_;refine Vm eQ S6 (fF ro ep fr tg rd A c l _ (St.rd 2 S6 E) Y) ?_;intro w7 M;refine zN 7 ?_;by_cases I:aA ⟨ro,ep,fr,tg,rd,l⟩=0
 ·have J:=(gB I).1;unfold bP at J;have Z:=iX (gB I).2;dsimp only at J Z;refine zN 9 ?_;by_cases h11:ro=3
  ·refine zN 10 ?_;by_cases h12:e<=ep
   ·refine zN 7 ?_;refine vv kF ?_;refine sa 0 M kQ ?_;intro Hq oJ;refine zN 7 ?_;have ku:=oJ.bg [2,1,0];rw[show gZ ⟨ro,ep,fr,tg,rd,l⟩ e=(⟨0,0,0,0,0,[]⟩,15)from by unfold gZ;(try dsimp only);exact mW];exact⟨none,0,oG,E,aG ku⟩
   refine zN 12 ?_;refine vv (v:=.agg #[D 0,D ep,D 0,D 0,D 0,.slice none 0 0]) iE ?_;refine sa 0 M kQ ?_;intro w16 zi;refine zN 5 ?_;have uD:=zi.bg [2,1,0];rw[show gZ ⟨ro,ep,fr,tg,rd,l⟩ e=(⟨0,ep,0,0,0,[]⟩,0)from by unfold gZ;(try dsimp only);exact mW];exact⟨none,0,oG,E,aG uD⟩
  refine zN 7 ?_;refine vv kF ?_;refine sa 0 M kQ ?_;intro J4 sU;refine zN 7 ?_;have yj:=sU.bg [2,1,0];rw[show gZ ⟨ro,ep,fr,tg,rd,l⟩ e=(⟨0,0,0,0,0,[]⟩,7)from by unfold gZ;(try dsimp only);exact mW];exact⟨none,0,oG,E,aG yj⟩
 refine zN 7 ?_;refine vv kF ?_;refine zQ ?_;refine sa 0 M kQ ?_;intro w22 rJ;refine zN 7 ?_;have mG:=rJ.bg [2,1,0];rw[show gZ ⟨ro,ep,fr,tg,rd,l⟩ e=(⟨0,0,0,0,0,[]⟩,aA ⟨ro,ep,fr,tg,rd,l⟩)from by unfold gZ;(try dsimp only);exact mW];exact⟨none,0,oG,E,aG mG⟩
def MW(b:bF)(ep:Int)(d:Nat)(l:List Ev)(last:Bool):bF:=if last=true then⟨1,ep,0,0,0,b.JU++l.drop d++[bC]⟩else{b with JU:=b.JU++l.drop d}
def WK{b:bF}{ep:Int}{d:Nat}{l:List Ev}:MW b ep d l true=⟨1,ep,0,0,0,b.JU++l.drop d++[bC]⟩:=rfl
def WL{b:bF}{ep:Int}{d:Nat}{l:List Ev}:MW b ep d l false={b with JU:=b.JU++l.drop d}:=rfl
def Jt{b:bF}{ep:Int}{k:Nat}{K:List Ev}{last:Bool}(h:aA b=0)(I:b.GR=4)(he:b.ep=ep)(J:k<=b.JU.length):dM b ep k K last=
  if ¬(b.JU.drop k).take K.length=K.take (b.JU.length-k)then(bV,3)else if last=true/\k+K.length<b.JU.length then(bV,3)
  else if aA (MW b ep (b.JU.length-k) K last)≠0 then(bV,3)else(MW b ep (b.JU.length-k) K last,0):=by
 unfold dM MW;rw[ah (λh1=>h1 h),ah (λh1=>h1 I),ah (λh1=>h1 he),ah Y,dW]
section
variable {l K:List Ev}{k d p i:Nat}{b:bF}{r:dN}{qu e pe:Int}{x:Ev}
def aop(J:l.length=k+d)(M:min d K.length=p):((l.drop k).take K.length=K.take d)↔((l.drop k).take p=K.take p):=by
 have h:(l.drop k).take K.length=(l.drop k).take p:=by rw[ac5,dL];omega
 have I:K.take d=K.take p:=by rw[ac5];omega
 rw[h,I]
def ajN(I:min d K.length=p):K.drop p=K.drop d:=by
 rcases Nat.le_total d K.length with h|h
 ·rw[show p=d by omega]
 rw[sS h,sS Y]
def aoq{a b:Ev}(h:a=b)(w:World):(binOp .neq 53 (.agg #[D a.kind,D a.Pv,D a.id,D a.body,D a.Qs,D a.Qz])
  (.agg #[D b.kind,D b.Pv,D b.id,D b.body,D b.Qs,D b.Qz])).run tP w=.ok (.bool false) w:=by
 rw[uV,jU h];rfl
def aor{a b:Ev}(h:¬a=b)(w:World):(binOp .neq 53 (.agg #[D a.kind,D a.Pv,D a.id,D a.body,D a.Qs,D a.Qz])
  (.agg #[D b.kind,D b.Pv,D b.id,D b.body,D b.Qs,D b.Qz])).run tP w=.ok (.bool true) w:=by
 rw[uV,jc h];rfl
def auL{x y:List Ev}{k:Nat}{a b:Ev}(I:x[k]? =some a)(J:y[k]? =some b)(h:¬a=b):¬x=y:=λe=>by
 rw[e,J]at I
 injection I with h1
 exact h h1.symm
def aif(A A':Option Addr)(c c' n:Nat)(xs ys:List Ev)(w:World)(h:Rd w w.heap.size 6 A n (bT xs))(h':Rd w w.heap.size 6 A' n (bT ys))(hx:xs.length=n)(hy:ys.length=n)(hn:n<=1152921504606846976):
 Calls tP 107 #[.slice A n c,.slice A' n c'] w (Jl w (decide (xs=ys))):=by
 have S:=((St.start w).dG h').dG h;clear h h';refine iW 26 func107 ?_;refine cw [0,1] ?_;refine zN 27 ?_;refine fV (X:=Nat) (λxv=>[(0,.slice A n c),(1,.slice A' n c'),(4,.bool false),(12,D (n:Int)),(13,D (xv:Int))]) (λxv wr=>(xv<=n)/\(xs.take xv=ys.take xv)/\St w.heap.size w wr [.rd 6 A n ((xs).flatMap Ev.cells),.rd 6 A' n ((ys).flatMap Ev.cells)]) (λxv=>n-xv) (0) ?_ ?_ ?_
 ·exact⟨aC _,E,S⟩
 ·exact Dc
 rintro k w1 ⟨hi3,hi4,S2⟩
 try dsimp only at hi3 hi4 S2
 refine bK (l':=[(0,.slice A n c),(1,.slice A' n c'),(4,.bool false),(12,D (n:Int)),(13,D (k:Int))]) Dc (aX (aH ?_));by_cases h5:(k:Int)< (n:Int)
 ·refine zN 16 ?_;refine iN S2 mixed kQ ?_;refine zN 2 ?_;obtain⟨b8,o9,rfl⟩:=Rd.addr (St.rd 0 S2 E) Y;obtain⟨I,M⟩:=GX k (St.rd 0 S2 E) Y;refine uv (λ_ _=>mY k) ?_;refine uv (v:=.agg #[D I.kind,D I.Pv,D I.id,D I.body,D I.Qs,D I.Qz]) (λ_ VX=>(ay E E (eZ (cs:=Ev.cells I) (Rd.Al (St.rd 0 VX E) (λ_ _ h=>dw (enc:=Ev.cells) (sz:=6) (λ_=>E) M h))))) ?_;refine zN 2 ?_;obtain⟨b16,o17,rfl⟩:=Rd.addr (St.rd 1 S2 E) Y;obtain⟨J,O⟩:=GX k (St.rd 1 S2 E) Y;refine uv (λ_ _=>mY k) ?_;refine uv (v:=.agg #[D J.kind,D J.Pv,D J.id,D J.body,D J.Qs,D J.Qz]) (λ_ aDZ=>(ay E E (eZ (cs:=Ev.cells J) (Rd.Al (St.rd 1 aDZ E) (λ_ _ h=>dw (enc:=Ev.cells) (sz:=6) (λ_=>E) O h))))) ?_;by_cases Z:I=J
  ·refine uv (v:=.bool false) (λ_ _=>(cO E E E (K9 kQ (aoq Z _)))) ?_;refine iw λOz mG=>?_;refine zN 6 ?_;refine vv (v:=D ((k+1:Nat):Int)) jB ?_;refine zN 2 ?_;refine bQ (k+1) ?_ Dc (by first|omega|(dsimp only;omega));exact⟨Y,(by rw[mQ,mQ,hi4,M,O,Z]),mG⟩
  refine uv (v:=.bool true) (λ_ _=>(cO E E E (K9 kQ (aor Z _)))) ?_;refine iw λRt xq=>?_;refine zN 14 ?_;exact⟨CF (auL M O Z),xq.QM⟩
 refine zN 17 ?_;obtain rfl:n=k:=Y;have he:xs=ys:=by rw[<-jE (oq hx),<-jE (l:=ys) (oq hy)];exact hi4
 exact⟨reT he,S2.QM⟩
def Ju(ro ep fr tg rd:Int)(A:Option Addr)(c:Nat)(l:List Ev)(e at_:Int)(A2:Option Addr)(c2:Nat)(K:List Ev)(last:Bool)(hlc:l.length<=c)(hkc:K.length<=c2)(w:World)(hK:Rd w w.heap.size 6 A2 K.length (bT K))(h:Rd w w.heap.size 6 A l.length (bT l))(hb:l.length*48<=reachBytes)(hbK:(K.length+2001)*48<=reachBytes):
 Calls tP 89 #[.agg #[D ro,D ep,D fr,D tg,D rd,.slice A l.length c],D e,D at_,.slice A2 K.length c2,.bool last] w (mU w (dM ⟨ro,ep,fr,tg,rd,l⟩ e at_ K last)):=by
 have S:=((St.start w).dG hK).dG h;have hb2:=hb;unfold reachBytes at hb2;refine iW 101 func89 ?_;refine cw [0,1,2,3,4] ?_;refine zN 2 ?_;refine jM S ?_;intro b1 w2 S3;refine iL S3 iI ?_;intro b4 w5 S6;refine zN 7 ?_;refine Vm eQ S6 (fF ro ep fr tg rd A c l _ (St.rd 2 S6 E) Y) ?_;intro w7 S8;refine zN 7 ?_;by_cases I:aA ⟨ro,ep,fr,tg,rd,l⟩=0
 ·have hsh:=(gB I).1;unfold bP at hsh;have hln:=iX (gB I).2;dsimp only at hsh hln;refine zN 9 ?_;by_cases h11:ro=4
  ·refine zN 10 ?_;by_cases h12:ep=e
   ·refine zN 8 ?_;by_cases h13:at_<0
    ·refine zN 14 ?_;refine vv kF ?_;refine sa 0 S8 kQ ?_;intro OE ku;refine zN 7 ?_;have rX:=ku.bg [3,2,1,0];rw[show dM ⟨ro,ep,fr,tg,rd,l⟩ e at_ K last=(bV,2)from by unfold dM;(try dsimp only);exact mW];exact⟨none,0,aC _,E,aG rX⟩
    refine zN 6 ?_;by_cases h17:(l.length:Int)<at_
    ·refine zN 8 ?_;refine vv kF ?_;refine sa 0 S8 kQ ?_;intro Qi xK;refine zN 7 ?_;have sU:=xK.bg [3,2,1,0];rw[show dM ⟨ro,ep,fr,tg,rd,l⟩ e at_ K last=(bV,2)from by unfold dM;(try dsimp only);exact mW];exact⟨none,0,aC _,E,aG sU⟩
    refine zN 10 ?_;obtain rfl:ro=4:=Y;obtain rfl:tg=0:=Y;obtain rfl:rd=0:=Y;obtain rfl:e=ep:=Y;clear hsh;have hbL:(l.length+K.length+1)*48<=reachBytes:=fG (Bd 48 Y) hbK;have hb3:=hbL;unfold reachBytes at hb3;obtain⟨k,rfl⟩:∃k:Nat,at_=k:=⟨at_.toNat,by omega⟩;obtain⟨d,hd⟩:∃d,l.length=k+d:=⟨l.length-k,by omega⟩;obtain⟨p,hp⟩:∃p,min d K.length=p:=⟨_,E⟩;have J:=Lib.hid (aop (l:=l) (K:=K) hd hp);refine zN 5 ?_;refine vv (v:=D ((d:Nat):Int)) ysu ?_;refine zN 2 ?_;refine vv (v:=D ((p:Nat):Int)) (lg (vs:=[D ((d:Nat):Int),D (K.length:Int)]) E Aq λ_=>by rw[Y9,hp]) ?_;refine zN 4 ?_;obtain⟨Z,aD0,aD1,aM6⟩:=Jk (P:=tP) (t:=56) (enc:=Ev.cells) (s:=6) (λ_=>E) (A:=A) (b:=l) (n:=l.length) (c:=c) (lo:=(some (D (k:Int)))) (hi:=(some (D ((k+p:Nat):Int)))) (mx:=(some (D ((k+p:Nat):Int)))) (l:=k) (k:=k+p) (q:=k+p) (m:=p) (c':=p) underlying56 kQ (ahS k (k+p) (k+p) E E E Y Y Y) Y Y Y Y Y;have nC:=S8.dG (aD1 _ _ (S8.all 2 _ E));obtain⟨A26,aD2,aD3,axl⟩:=Jk (P:=tP) (t:=56) (enc:=Ev.cells) (s:=6) (λ_=>E) (A:=A2) (b:=K) (n:=K.length) (c:=c2) (lo:=none) (hi:=(some (D ((p:Nat):Int)))) (mx:=(some (D ((p:Nat):Int)))) (l:=0) (k:=p) (q:=p) (m:=p) (c':=p) underlying56 kQ (ap1 p p E E Y Y) Y Y Y Y Y;have Ew:=nC.dG (aD3 _ _ (nC.all 4 _ E));have tN:=Ew;rw[drop_zero]at tN;refine zQ ?_;refine iN tN mixed kQ ?_;refine zN 5 ?_;refine uv (v:=D ((k+p:Nat):Int)) (λ_ _=>jB) ?_;refine zN 2 ?_;refine uv (v:=D ((k+p:Nat):Int)) (λ_ _=>jB) ?_;refine uv (v:=.slice Z p p) (λ_ _=>(lU E E (kI E) (kI E) (kI E) (aD0 _))) ?_;refine zN 3 ?_;refine uv (v:=.slice A26 p p) (λ_ _=>(lU E E qD (kI E) (kI E) (aD2 _))) ?_;have HE:=λ(w:World) h h1=>aif Z A26 p p p ((l.drop k).take p) (K.take p) w h h1 (by rw[dV,dL];omega) (by rw[dV];omega) Y;by_cases hq:(l.drop k).take p=K.take p
    ·rw[jU hq]at HE;refine ach (v:=.bool true) (wn E) E E (λ_=>(jK (vs:=[.slice Z p p,.slice A26 p p]) E eQ Aq)) (λ_ arI=>(HE _ (St.rd 1 arI E) (St.rd 0 arI E)).mono λ_ _ h=>⟨h.1,arI.on h.2⟩) ?_;clear HE;refine zQ ?_;refine iw λZf yT=>?_;refine zN 4 ?_;have WM:=ajN (K:=K) hp;obtain⟨M,aD4,aD5,aM7⟩:=Jk (P:=tP) (t:=56) (enc:=Ev.cells) (s:=6) (λ_=>E) (A:=A2) (b:=K) (n:=K.length) (c:=c2) (lo:=(some (D ((p:Nat):Int)))) (hi:=none) (mx:=none) (l:=p) (k:=K.length) (q:=c2) (m:=(K.drop d).length) (c':=c2-p) underlying56 kQ (ali p E Y) Y Y Y (by rw[dL];omega) Y;have xP:=yT.dG (aD5 _ _ (yT.all 5 _ E));have zh:=xP;rw[WM,jy]at zh;have hlk:(l++(K.drop d)).length=l.length+(K.length-d):=by simp
     have hw2:((l++(K.drop d)).length+([bC]:List Ev).length)*48<=reachBytes:=by rw[hlk];exact fG (Bd 48 (by simp only[length_cons,length_nil];omega)) hbL
     refine pW (X:=Nat×(Option Addr)×Nat) (λxv=>[(1,D e),(2,D (k:Int)),(3,.slice A2 K.length c2),(4,.bool last),(5,pV b1 0),(10,pV b4 0),(11,D 0),(14,pV xv.1 0)]) (λxv wr=>St w.heap.size w wr [.Pj xv.1 #[D 4,D e,D fr,D 0,D 0,.slice xv.2.1 ((l++(K.drop d)).length) xv.2.2] 58,.own 53 6 (.slice xv.2.1 ((l++(K.drop d)).length) xv.2.2) ((l++(K.drop d)).length) ((l++(K.drop d)).flatMap Ev.cells),.rd 6 M ((K.drop d).length) ((K.drop d).flatMap Ev.cells),.rd 6 A26 p ((K.take p).flatMap Ev.cells),.rd 6 Z p (((l.drop k).take p).flatMap Ev.cells),.Pj b4 zB 58,.Pj b1 #[D 4,D e,D fr,D 0,D 0,.slice A l.length c] 58,.rd 6 A l.length ((l).flatMap Ev.cells),.rd 6 A2 K.length ((K).flatMap Ev.cells)]) ?_ ?_
     ·have O:=zh.drew;refine gT 7 6 O [] ?_;iterate 3 refine jf ?_
      refine gk (v:=.slice M ((K.drop d).length) (c2-p)) 3 E O (λ_ _=>(lU E E (kI E) qD qD (aD4 _))) ?_;refine ahE (m:=2) (r:=4) (s:=5) kQ ?_ ?_
      ·refine nL (i:=4) E E (wn E) E E (jK (vs:=[.agg #[D 4,D e,D fr,D 0,D 0,.slice A l.length c],.slice M ((K.drop d).length) (c2-p)]) E eQ Aq) (u7 4 e fr 0 0 A c l M (c2-p) (K.drop d) _ (St.rd 5 O E) (St.rd 0 O E) (by rw[dL];unfold reachBytes;omega)) ?_;rintro _ w63 ⟨A61,c62,rfl,T65⟩;refine⟨_,E,?_⟩;have S64:=O.ext T65 E;refine jf ?_;refine gF (m:=1) (r:=5) kQ ?_;refine oV (i:=5) E E (V:=λb=>pV b 0) (row:=zB) (t:=58) S64 (wn E) E E (jJ E (Tryz.zeroValue58 _) E) ?_;intro b66 w67 Fu;refine jf ?_;refine gy kQ E E E ?_;refine sa 0 Fu kQ ?_;intro w69 CP;refine zQ ?_;refine jY ?_;refine eO (b66,A61,c62) ?_ Y8;exact CP
      refine oV (i:=5) E E (V:=λb=>pV b 0) (row:=zB) (t:=58) O (wn E) E E (jJ E (Tryz.zeroValue58 _) E) ?_;intro b71 w72 xu;refine jf ?_;refine gF (m:=1) (r:=4) kQ ?_;refine nL (i:=4) E E (wn E) E E (jK (vs:=[.agg #[D 4,D e,D fr,D 0,D 0,.slice A l.length c],.slice M ((K.drop d).length) (c2-p)]) E eQ Aq) (u7 4 e fr 0 0 A c l M (c2-p) (K.drop d) _ (St.rd 6 xu E) (St.rd 1 xu E) (by rw[dL];unfold reachBytes;omega)) ?_;rintro _ w76 ⟨A74,c75,rfl,T78⟩;refine⟨_,E,?_⟩;have Fj:=xu.ext T78 E;refine jf ?_;refine gy kQ E E E ?_;refine sa 1 Fj kQ ?_;intro w79 EF;refine zQ ?_;refine jY ?_;have xJ:St w.heap.size w w79 [_,_,_,_,_,_,_,_,_]:=EF.re [1,0,2,3,4,5,6,7,8] dQ;refine eO (b71,A74,c75) ?_ Y8;exact xJ
     rintro⟨b82,A83,c84⟩ w85 CQ
     try dsimp only at CQ
     refine bK (l':=[(1,D e),(2,D (k:Int)),(3,.slice A2 K.length c2),(4,.bool last),(5,pV b1 0),(10,pV b4 0),(11,D 0),(14,pV b82 0)]) Y8 (aX (Ii (aX (aH (vm ?_)))));refine zQ ?_
     cases axr:(last)
     ·refine zN 27 ?_;refine Vm eQ CQ (fF 4 e fr 0 0 A83 c84 (l++(K.drop d)) _ (St.Vj 1 CQ E) (by simp only[length_append,length_cons,length_nil,length_drop];omega)) ?_;intro w88 Qk;by_cases Kc:aA ⟨4,e,fr,0,0,l++(K.drop d)⟩=0
      ·refine zN 9 ?_;refine sa 5 Qk kQ ?_;intro w92 F6;refine zN 5 ?_;rw[Jt (b:=⟨4,e,fr,0,0,l⟩) (k:=k) I E E uQ];dsimp only;rw[show l.length-k=d from by omega];rw[ah (λh=>h (J.out.2 hq))];rw[ah iQ];rw[WL];dsimp only;rw[ah (λh=>h Kc)];have KN:=F6.bg [8,7,6,5,4,3,2,0];have hcp:=(fE (KN.own 0 E)).1;have KV:=KN.bU 0 E;exact⟨A83,c84,oG,E,KV⟩
      refine zN 6 ?_;refine vv kF ?_;refine sa 5 Qk kQ ?_;intro w96 Gb;refine zN 6 ?_;rw[Jt (b:=⟨4,e,fr,0,0,l⟩) (k:=k) I E E uQ];dsimp only;rw[show l.length-k=d from by omega];rw[ah (λh=>h (J.out.2 hq))];rw[ah iQ];rw[WL];dsimp only;rw[aj Kc];have Gg:=Gb.bg [8,7,6,5,4,3,2,1,0];exact⟨none,0,aC _,E,aG Gg⟩
     refine zN 3 ?_;refine vg (v:=D ((k+K.length:Nat):Int)) jB ?_;refine zN 3 ?_;by_cases h99:((k+K.length:Nat):Int)< (l.length:Int)
     ·refine zN 8 ?_;refine vv kF ?_;refine sa 5 CQ kQ ?_;intro alp zw;refine zN 7 ?_;rw[Jt (b:=⟨4,e,fr,0,0,l⟩) (k:=k) I E E uQ];dsimp only;rw[show l.length-k=d from by omega];rw[ah (λh=>h (J.out.2 hq))];rw[aj ⟨E,by omega⟩];have uz:=zw.bg [8,7,6,5,4,3,2,1,0];exact⟨none,0,aC _,E,aG uz⟩
     refine zN 17 ?_;refine vv (v:=.agg #[D 1,D e,D 0,D 0,D 0,.slice A83 ((l++(K.drop d)).length) c84]) iE ?_;refine vv (v:=.agg #[D 4,D 0,D 0,D 0,D 0,D 0]) iE ?_;refine Wp CQ ?_;intro aD6 arJ rD;refine eB eQ (u7 1 e 0 0 0 A83 c84 (l++(K.drop d)) (aD aD6 0) 1 [bC] _ (St.Vj 2 rD E) (St.nO (xs:=bT [bC]) 0 rD E E E) hw2) ?_;rintro _ arK ⟨axt,c107,rfl,aD7⟩;refine⟨_,E,?_⟩;have Ma:=rD.ext aD7 E;refine sa 2 Ma kQ ?_;intro afn EI;refine zN 7 ?_;refine Vm eQ EI (fF 1 e 0 0 0 axt c107 (l++(K.drop d)++[bC]) _ (St.Vj 0 EI E) (by simp only[length_append,length_cons,length_nil,length_drop];omega)) ?_;intro alq EA;by_cases h116:aA ⟨1,e,0,0,0,l++(K.drop d)++[bC]⟩=0
     ·refine zN 9 ?_;refine sa 7 EA kQ ?_;intro afo zu;refine zN 5 ?_;rw[Jt (b:=⟨4,e,fr,0,0,l⟩) (k:=k) I E E uQ];dsimp only;rw[show l.length-k=d from by omega];rw[ah (λh=>h (J.out.2 hq))];rw[ah jQ];rw[WK];dsimp only;rw[ah (λh=>h h116)];have yI:=zu.bg [10,9,8,7,6,5,4,3,2,1];have hcp:=(fE (yI.own 0 E)).1;have vR:=yI.bU 0 E;exact⟨axt,c107,oG,E,vR⟩
     refine zN 6 ?_;refine vv kF ?_;refine sa 7 EA kQ ?_;intro afp FM;refine zN 6 ?_;rw[Jt (b:=⟨4,e,fr,0,0,l⟩) (k:=k) I E E uQ];dsimp only;rw[show l.length-k=d from by omega];rw[ah (λh=>h (J.out.2 hq))];rw[ah jQ];rw[WK];dsimp only;rw[aj h116];have CY:=FM.bg [10,9,8,7,6,5,4,3,2,1,0];exact⟨none,0,aC _,E,aG CY⟩
    rw[jc hq]at HE;refine ach (v:=.bool false) (wn E) E E (λ_=>(jK (vs:=[.slice Z p p,.slice A26 p p]) E eQ Aq)) (λ_ ahh=>(HE _ (St.rd 1 ahh E) (St.rd 0 ahh E)).mono λ_ _ h=>⟨h.1,ahh.on h.2⟩) ?_;clear HE;refine zQ ?_;refine iw λarE VT=>?_;refine zN 4 ?_;refine vv kF ?_;refine sa 2 VT kQ ?_;intro aD8 AL;refine zN 6 ?_;rw[Jt (b:=⟨4,e,fr,0,0,l⟩) (k:=k) I E E uQ];dsimp only;rw[show l.length-k=d from by omega];rw[aj (λh=>hq (J.out.1 h))];have afq:=AL.bg [5,4,3,2,1,0];exact⟨none,0,aC _,E,aG afq⟩
   refine zN 7 ?_;refine vv kF ?_;refine sa 0 S8 kQ ?_;intro alk BN;refine zN 7 ?_;have VY:=BN.bg [3,2,1,0];rw[show dM ⟨ro,ep,fr,tg,rd,l⟩ e at_ K last=(bV,15)from by unfold dM;(try dsimp only);exact mW];exact⟨none,0,aC _,E,aG VY⟩
  refine zN 7 ?_;refine vv kF ?_;refine sa 0 S8 kQ ?_;intro awW Pw;refine zN 7 ?_;have Ka:=Pw.bg [3,2,1,0];rw[show dM ⟨ro,ep,fr,tg,rd,l⟩ e at_ K last=(bV,7)from by unfold dM;(try dsimp only);exact mW];exact⟨none,0,aC _,E,aG Ka⟩
 refine zN 7 ?_;refine vv kF ?_;refine zQ ?_;refine sa 0 S8 kQ ?_;intro awq Eu;refine zN 7 ?_;have EB:=Eu.bg [3,2,1,0];rw[show dM ⟨ro,ep,fr,tg,rd,l⟩ e at_ K last=(bV,aA ⟨ro,ep,fr,tg,rd,l⟩)from by unfold dM;(try dsimp only);exact mW];exact⟨none,0,aC _,E,aG EB⟩
noncomputable def FN(b:bF)(e:Ev):bF×Int:=if aA ⟨b.GR,b.ep,b.fr,b.tg,b.rd,b.JU++[e]⟩≠0 then(bV,3)else(⟨b.GR,b.ep,b.fr,b.tg,b.rd,b.JU++[e]⟩,0)
def ZV(b:bF)(pe:Int):bF×Int:=(⟨3,b.ep,b.fr,pe,b.rd,b.JU⟩,0)
noncomputable def mD(b:bF)(r:dN):bF×Int:=
 if r.kind=1 then jR b r.Pf else if r.kind=4 then dR b r.Pf r.Vk
 else if ¬(b.GR=(if r.kind=2\/r.kind=3 then 1 else if r.kind=7 then 3 else 4)/\b.ep=r.Pf)then(bV,3)
 else if r.kind=3 then ZV b r.Vk else if r.kind=6 then dM b r.Pf b.JU.length [] true else if r.kind=7 then gZ b (r.Pf+1)else FN b r.ev
noncomputable def fH(b:bF)(r:dN):bF×Int:=
 if aA b≠0 then(bV,aA b)else if aM r≠0 then(bV,aM r)
 else if b.GR=2\/(r.kind≠3/\r.kind≠4/\r.Vk≠0)then(bV,3)else if (mD b r).2≠0 then(bV,3)else((mD b r).1,0)
def zx(ro ep fr tg rd:Int)(A:Option Addr)(c:Nat)(l:List Ev)(kd qu e pe:Int)(x:Ev)(w:World)(h:Rd w w.heap.size 6 A l.length (bT l))(hb:l.length*48<=reachBytes):
 Calls tP 97 #[.agg #[D ro,D ep,D fr,D tg,D rd,.slice A l.length c],.agg (rR kd qu e pe x)] w (mU w (jR ⟨ro,ep,fr,tg,rd,l⟩ e)):=by
 have S:=(St.start w).dG h;have I:=hb;unfold reachBytes at I;obtain⟨R,hR⟩:∃R,jR ⟨ro,ep,fr,tg,rd,l⟩ e=R:=⟨_,E⟩;rw[hR];refine iW 12 func97 ?_;refine cw [0,1] ?_;refine zN 2 ?_;refine jM S ?_;intro b1 w2 S3;refine jM S3 ?_;intro b4 w5 S6;refine iL S6 iI ?_;intro b7 w8 S9;refine zN 8 ?_;refine eB eQ ((hR▸OJ ro ep fr tg rd A c l e _ (St.rd 3 S9 E) hb)) ?_;rintro _ Hq ⟨J,M,O,rfl,Z⟩;refine⟨_,E,?_⟩;have oJ:=S9.ext Z E;refine zN 2 ?_;refine sa 1 oJ kQ ?_;intro w16 zi;refine zN 5 ?_;have uD:=zi.bg [4,3,2,1];exact⟨J,M,by assumption,E,uD⟩
def zy(ro ep fr tg rd:Int)(A:Option Addr)(c:Nat)(l:List Ev)(kd qu e pe:Int)(x:Ev)(w:World)(h:Rd w w.heap.size 6 A l.length (bT l))(hb:l.length*48<=reachBytes):
 Calls tP 101 #[.agg #[D ro,D ep,D fr,D tg,D rd,.slice A l.length c],.agg (rR kd qu e pe x)] w (mU w (dR ⟨ro,ep,fr,tg,rd,l⟩ e pe)):=by
 have S:=(St.start w).dG h;have I:=hb;unfold reachBytes at I;obtain⟨R,hR⟩:∃R,dR ⟨ro,ep,fr,tg,rd,l⟩ e pe=R:=⟨_,E⟩;rw[hR];refine iW 14 func101 ?_;refine cw [0,1] ?_;refine zN 2 ?_;refine jM S ?_;intro b1 w2 S3;refine jM S3 ?_;intro b4 w5 S6;refine iL S6 iI ?_;intro b7 w8 S9;refine zN 10 ?_;refine eB eQ ((hR▸KU ro ep fr tg rd A c l e pe _ (St.rd 3 S9 E) hb)) ?_;rintro _ Hq ⟨J,M,O,rfl,Z⟩;refine⟨_,E,?_⟩;have oJ:=S9.ext Z E;refine zN 2 ?_;refine sa 1 oJ kQ ?_;intro w16 zi;refine zN 5 ?_;have uD:=zi.bg [4,3,2,1];exact⟨J,M,by assumption,E,uD⟩
def YA(ro ep fr tg rd:Int)(A:Option Addr)(c:Nat)(l:List Ev)(kd qu e pe:Int)(x:Ev)(I:l.length<=c)(w:World)(h:Rd w w.heap.size 6 A l.length (bT l))(hb:l.length*48<=reachBytes):
 Calls tP 102 #[.agg #[D ro,D ep,D fr,D tg,D rd,.slice A l.length c],.agg (rR kd qu e pe x)] w (mU w (dM ⟨ro,ep,fr,tg,rd,l⟩ e (l.length:Int) [] true)):=by
 have S:=(St.start w).dG h;have J:=hb;unfold reachBytes at J;obtain⟨R,hR⟩:∃R,dM ⟨ro,ep,fr,tg,rd,l⟩ e (l.length:Int) [] true=R:=⟨_,E⟩;rw[hR];refine iW 15 func102 ?_;refine cw [0,1] ?_;refine zN 2 ?_;refine jM S ?_;intro b1 w2 S3;refine jM S3 ?_;intro b4 w5 S6;refine iL S6 iI ?_;intro b7 w8 S9;refine zN 11 ?_;refine eB eQ ((hR▸Ju ro ep fr tg rd A c l e (l.length:Int) none 0 [] true I (iJ 0) _ Rd.UZ (St.rd 3 S9 E) hb dQ)) ?_;rintro _ Hq ⟨M,O,Z,rfl,T15⟩;refine⟨_,E,?_⟩;have oJ:=S9.ext T15 E;refine zN 2 ?_;refine sa 1 oJ kQ ?_;intro w16 zi;refine zN 5 ?_;have uD:=zi.bg [4,3,2,1];exact⟨M,O,by assumption,E,uD⟩
def YB(ro ep fr tg rd:Int)(A:Option Addr)(c:Nat)(l:List Ev)(kd qu e pe:Int)(x:Ev)(he:0<=e/\e<=1048576)(w:World)(h:Rd w w.heap.size 6 A l.length (bT l))(hb:l.length*48<=reachBytes):
 Calls tP 103 #[.agg #[D ro,D ep,D fr,D tg,D rd,.slice A l.length c],.agg (rR kd qu e pe x)] w (mU w (gZ ⟨ro,ep,fr,tg,rd,l⟩ (e+1))):=by
 have S:=(St.start w).dG h;have I:=hb;unfold reachBytes at I;obtain⟨R,hR⟩:∃R,gZ ⟨ro,ep,fr,tg,rd,l⟩ (e+1)=R:=⟨_,E⟩;rw[hR];refine iW 13 func103 ?_;refine cw [0,1] ?_;refine zN 2 ?_;refine jM S ?_;intro b1 w2 S3;refine jM S3 ?_;intro b4 w5 S6;refine iL S6 iI ?_;intro b7 w8 S9;refine zN 8 ?_;refine vv (v:=D (e+1)) jB ?_;refine eB eQ ((hR▸Js ro ep fr tg rd A c l (e+1) _ (St.rd 3 S9 E) hb)) ?_;rintro _ Hq ⟨J,M,O,rfl,Z⟩;refine⟨_,E,?_⟩;have oJ:=S9.ext Z E;refine zN 2 ?_;refine sa 1 oJ kQ ?_;intro w16 zi;refine zN 5 ?_;have uD:=zi.bg [4,3,2,1];exact⟨J,M,by assumption,E,uD⟩
def abu(ro ep fr tg rd:Int)(A:Option Addr)(c:Nat)(l:List Ev)(kd qu e pe:Int)(x:Ev)(hl2:l.length<=2000)(w:World)(h:Rd w w.heap.size 6 A l.length (bT l))(hb:l.length*48<=reachBytes):
 Calls tP 99 #[.agg #[D ro,D ep,D fr,D tg,D rd,.slice A l.length c],.agg (rR kd qu e pe x)] w (mU w (FN ⟨ro,ep,fr,tg,rd,l⟩ x)):=by
 have S:=(St.start w).dG h;have hb2:=hb;unfold reachBytes at hb2;refine iW 19 func99 ?_;refine cw [0,1] ?_;refine zN 2 ?_;refine jM S ?_;intro b1 w2 S3;refine jM S3 ?_;intro b4 w5 S6;refine iL S6 iI ?_;intro b7 w8 S9;refine zN 3 ?_;have F8:=S9.nil 53 6;refine pW (X:=Nat×(Option Addr)×Nat) (λxv=>[(2,pV b1 0),(4,pV b7 0),(5,D 0)]) (λxv wr=>St w.heap.size w wr [.Pj xv.1 #[D x.kind,D x.Pv,D x.id,D x.body,D x.Qs,D x.Qz] 53,.own 53 6 (.slice xv.2.1 ((0+l.length)+1) xv.2.2) ((0+l.length)+1) ((l++[x]).flatMap Ev.cells),.Pj b7 zB 58,.Pj b4 (rR kd qu e pe x) 132,.Pj b1 #[D ro,D ep,D fr,D tg,D rd,.slice xv.2.1 ((0+l.length)+1) xv.2.2] 58,.rd 6 A l.length ((l).flatMap Ev.cells)]) ?_ ?_
 ·have I:=F8.drew;refine gT 9 7 I [0] ?_;iterate 3 refine jf ?_
  refine gk (v:=.agg #[D x.kind,D x.Pv,D x.id,D x.body,D x.Qs,D x.Qz]) 4 E (St.del 0 I) (λ_ arn=>(ay E E (eZ (cs:=[D x.kind,D x.Pv,D x.id,D x.body,D x.Qs,D x.Qz]) (St.rg 1 arn E (qW (x:=4) (m:=6) E))))) ?_;refine ahE (m:=4) (r:=2) (s:=5) kQ ?_ ?_
  ·refine ny (i:=2) E E (news:=(l).flatMap Ev.cells) (xs':=(l).flatMap Ev.cells) 0 I (wn E) E E E E E E (St.rd 4 I E) underlying56 tZ E dQ (gV _) lQ Y (E) ?_;intro A16 c17 Qi axv axw xK;refine jf ?_;refine gF (m:=3) (r:=5) kQ ?_;refine oV (i:=5) E E (V:=λb=>.slice (aD b 0) 1 1) (row:= #[D x.kind,D x.Pv,D x.id,D x.body,D x.Qs,D x.Qz]) (t:=53) xK (wn E) E E (bq (vs:=[(0,.agg #[D x.kind,D x.Pv,D x.id,D x.body,D x.Qs,D x.Qz])]) E Aq kQ) ?_;intro b22 Oz mG;refine jf ?_;refine gF (m:=2) (r:=6) kQ ?_;refine ny (i:=6) E E (news:=[D x.kind,D x.Pv,D x.id,D x.body,D x.Qs,D x.Qz]) (xs':=(l++[x]).flatMap Ev.cells) 1 mG (wn E) E E E E E E (St.nO (xs:=[D x.kind,D x.Pv,D x.id,D x.body,D x.Qs,D x.Qz]) 0 mG E E E) underlying56 tZ E dQ (dh E) lQ Y (jV (enc:=Ev.cells) E E) ?_;intro A25 c26 Rs hc29 aD9 wm;refine jf ?_;refine gy kQ E E E ?_;refine zQ ?_;refine KC 4 wm kQ ?_;intro w31 uh;refine zQ ?_;refine jY ?_;refine eO (b22,A25,c26) ?_ Jh;exact uh
  refine oV (i:=5) E E (V:=λb=>.slice (aD b 0) 1 1) (row:= #[D x.kind,D x.Pv,D x.id,D x.body,D x.Qs,D x.Qz]) (t:=53) I (wn E) E E (bq (vs:=[(0,.agg #[D x.kind,D x.Pv,D x.id,D x.body,D x.Qs,D x.Qz])]) E Aq kQ) ?_;intro b33 w34 Gc;refine jf ?_;refine gF (m:=3) (r:=2) kQ ?_;refine ny (i:=2) E E (news:=(l).flatMap Ev.cells) (xs':=(l).flatMap Ev.cells) 1 Gc (wn E) E E E E E E (St.rd 5 Gc E) underlying56 tZ E dQ (gV _) lQ Y (E) ?_;intro A36 c37 w38 aEa aEb Ey;refine jf ?_;refine gF (m:=2) (r:=6) kQ ?_;refine ny (i:=6) E E (news:=[D x.kind,D x.Pv,D x.id,D x.body,D x.Qs,D x.Qz]) (xs':=(l++[x]).flatMap Ev.cells) 1 Ey (wn E) E E E E E E (St.nO (xs:=[D x.kind,D x.Pv,D x.id,D x.body,D x.Qs,D x.Qz]) 0 Ey E E E) underlying56 tZ E dQ (dh E) lQ Y (jV (enc:=Ev.cells) E E) ?_;intro A42 c43 U4 aM8 aM9 tO;refine jf ?_;refine gy kQ E E E ?_;refine zQ ?_;refine KC 4 tO kQ ?_;intro Zf yT;refine zQ ?_;refine jY ?_;refine eO (b33,A42,c43) ?_ Jh;exact yT
 rintro⟨b50,Z,c52⟩ w53 J
 try dsimp only at J
 refine bK (l':=[(2,pV b1 0),(4,pV b7 0),(5,D 0)]) Jh (aX (aX (aH (vv (ay E E (rM 4 J E Tryz.underlying58 E kQ E)) ?_))));have M:(l++[x]).length=(0+l.length)+1:=by simp only[length_append,length_cons,length_nil,length_drop,Nat.zero_add]
 have axx:=λ(w:World) (h:Rd w w.heap.size 6 Z ((l++[x]).length) (bT (l++[x])))=>fF ro ep fr tg rd Z c52 (l++[x]) w h Y;rw[M]at axx;refine eB eQ (axx _ (St.Vj 1 J E)) ?_;rintro _ w56 ⟨rfl,O⟩;refine⟨_,E,?_⟩;have yR:=J.on O;clear O J;by_cases h59:aA ⟨ro,ep,fr,tg,rd,l++[x]⟩=0
 ·have hsh:=(gB h59).1;unfold bP at hsh;have hln:=iX (gB h59).2;dsimp only at hsh hln;refine zN 9 ?_;refine sa 2 yR kQ ?_;intro w60 KO;refine zN 5 ?_;have MR:=KO.bg [5,4,3,2,0];have hcp:=(fE (MR.own 0 E)).1;have zD:=MR.bU 0 E;rw[show FN ⟨ro,ep,fr,tg,rd,l⟩ x=(⟨ro,ep,fr,tg,rd,l++[x]⟩,0)from by unfold FN;(try dsimp only);exact mW];refine⟨Z,c52,?_,?_,?_⟩
  · dsimp only;rw[M];exact hcp
  · dsimp only;rw[M];rfl
  · dsimp only;rw[M];exact zD
 refine zN 6 ?_;refine vv kF ?_;refine sa 2 yR kQ ?_;intro w64 Hu;refine zN 6 ?_;have Jq:=Hu.bg [5,4,3,2,1,0];rw[show FN ⟨ro,ep,fr,tg,rd,l⟩ x=(⟨0,0,0,0,0,[]⟩,3)from by unfold FN;(try dsimp only);exact mW];exact⟨none,0,oG,E,aG Jq⟩
def YC(ro ep fr tg rd:Int)(A:Option Addr)(c:Nat)(l:List Ev)(kd qu e pe:Int)(x:Ev)(w:World)(h:Rd w w.heap.size 6 A l.length (bT l))(hb:l.length*48<=reachBytes):
 Calls tP 100 #[.agg #[D ro,D ep,D fr,D tg,D rd,.slice A l.length c],.agg (rR kd qu e pe x)] w λe w'=>e=.returned (.tuple #[.agg #[D 3,D ep,D fr,D pe,D rd,.slice A l.length c],D 0])/\Below w.heap.size w w':=by
 have S:=(St.start w).dG h;have J:=hb;unfold reachBytes at J;refine iW 11 func100 ?_;refine cw [0,1] ?_;refine zN 2 ?_;refine jM S ?_;intro b1 w2 S3;refine jM S3 ?_;intro b4 w5 S6;refine iL S6 iI ?_;intro b7 w8 S9;refine zN 4 ?_;have I:=S9.drew;refine aO 6 I [2] ?_;refine aP 3 ?_;refine bG 3 ?_;refine snz (row':= #[D 3,D ep,D fr,D tg,D rd,.slice A l.length c]) 3 E 2 I kQ ?_;intro OE M;refine aP 2 ?_;refine bG 5 ?_;refine snz (row':= #[D 3,D ep,D fr,D pe,D rd,.slice A l.length c]) 5 E 2 M kQ ?_;intro Qh O;refine aP 2 ?_;refine zN 4 ?_;refine sa 0 O kQ ?_;intro J4 Z;refine zN 5 ?_;exact⟨E,Z.QM⟩
def WO(ro ep fr tg rd:Int)(A:Option Addr)(c:Nat)(l:List Ev)(kd qu e pe:Int)(x:Ev)(z:Int)(b1 b2:Nat)(J:l.length<=2000)(w:World)(h:Rd w w.heap.size 6 A l.length (bT l))(hb:l.length*48<=reachBytes)(h1:Rd w w.heap.size 1 (aD b1 0) 1 [D z])(h2:Rd w w.heap.size 1 (aD b2 0) 1 [.func (.func 99) #[] #[]]):
 Calls tP 110 #[.agg #[D ro,D ep,D fr,D tg,D rd,.slice A l.length c],.agg (rR kd qu e pe x),pV b1 0,pV b2 0] w (mU w (if ¬(ro=z/\ep=e)then(bV,3)else FN ⟨ro,ep,fr,tg,rd,l⟩ x)):=by
 have S:=(((St.start w).dG h2).dG h1).dG h;have M:=hb;unfold reachBytes at M;obtain⟨R,hR⟩:∃R,FN ⟨ro,ep,fr,tg,rd,l⟩ x=R:=⟨_,E⟩;rw[hR];refine iW 26 func110 ?_;refine cw [0,1,2,3] ?_;refine zN 2 ?_;refine jM S ?_;intro b1 w2 S3;refine jM S3 ?_;intro b4 w5 S6;refine iL S6 iI ?_;intro b7 w8 I;refine zN 8 ?_;refine vv (v:=D z) (ay E E (aV (Rd.cl (j:=0) (St.rd 4 I E) E))) ?_;by_cases h10:ro=z
 ·refine zN 6 ?_;by_cases h11:ep=e
  ·refine zN 9 ?_;refine vv (v:=.func (.func 99) #[] #[]) (ay E E (aV (Rd.cl (j:=0) (St.rd 5 I E) E))) ?_;refine zN 2 ?_;refine zn eQ ((hR▸abu ro ep fr tg rd A c l kd qu e pe x J _ (St.rd 3 I E) hb)) ?_;rintro _ OI ⟨O,Z,az3,rfl,T17⟩;refine⟨_,E,?_⟩;have rX:=I.ext T17 E;refine zN 2 ?_;refine sa 1 rX kQ ?_;intro Qi xK;refine zN 5 ?_;rw[ah Y];have sU:=xK.bg [6,5,4,3,2,1];exact⟨O,Z,by assumption,E,sU⟩
  refine zN 7 ?_;refine vv kF ?_;refine sa 0 I kQ ?_;intro Jm lY;refine zN 6 ?_;have rJ:=lY.bg [5,4,3,2,1,0];rw[aj Y];exact⟨none,0,aC _,E,aG rJ⟩
 refine zN 13 ?_;refine vv kF ?_;refine sa 0 I kQ ?_;intro RD nC;refine zN 6 ?_;have uE:=nC.bg [5,4,3,2,1,0];rw[aj Y];exact⟨none,0,aC _,E,aG uE⟩
def r9(ro ep fr tg rd:Int)(A:Option Addr)(c:Nat)(l:List Ev)(kd qu e pe:Int)(x:Ev)(z:Int)(b1 b2:Nat)(w:World)(h:Rd w w.heap.size 6 A l.length (bT l))(hb:l.length*48<=reachBytes)(h1:Rd w w.heap.size 1 (aD b1 0) 1 [D z])(h2:Rd w w.heap.size 1 (aD b2 0) 1 [.func (.func 100) #[] #[]]):
 Calls tP 110 #[.agg #[D ro,D ep,D fr,D tg,D rd,.slice A l.length c],.agg (rR kd qu e pe x),pV b1 0,pV b2 0] w λe' w'=>(¬(ro=z/\ep=e)/\e'=.returned (.tuple #[.agg zB,D 3])\/(ro=z/\ep=e)/\e'=.returned (.tuple #[.agg #[D 3,D ep,D fr,D pe,D rd,.slice A l.length c],D 0]))/\Below w.heap.size w w':=by
 have S:=(((St.start w).dG h2).dG h1).dG h;have M:=hb;unfold reachBytes at M;refine iW 26 func110 ?_;refine cw [0,1,2,3] ?_;refine zN 2 ?_;refine jM S ?_;intro b1 w2 S3;refine jM S3 ?_;intro b4 w5 S6;refine iL S6 iI ?_;intro b7 w8 I;refine zN 8 ?_;refine vv (v:=D z) (ay E E (aV (Rd.cl (j:=0) (St.rd 4 I E) E))) ?_;by_cases h10:ro=z
 ·refine zN 6 ?_;by_cases h11:ep=e
  ·refine zN 9 ?_;refine vv (v:=.func (.func 100) #[] #[]) (ay E E (aV (Rd.cl (j:=0) (St.rd 5 I E) E))) ?_;refine zN 2 ?_;refine zn eQ (YC ro ep fr tg rd A c l kd qu e pe x _ (St.rd 3 I E) hb) ?_;rintro _ w12 ⟨rfl,J⟩;refine⟨_,E,?_⟩;have O:=I.on J;refine zN 2 ?_;refine sa 0 O kQ ?_;intro OI Z;refine zN 5 ?_;exact⟨.inr ⟨by omega,E⟩,Z.QM⟩
  refine zN 7 ?_;refine vv kF ?_;refine sa 0 I kQ ?_;intro Qh uD;refine zN 6 ?_;exact⟨.inl ⟨by omega,E⟩,uD.QM⟩
 refine zN 13 ?_;refine vv kF ?_;refine sa 0 I kQ ?_;intro J4 sU;refine zN 6 ?_;exact⟨.inl ⟨by omega,E⟩,sU.QM⟩
def ajO(ro ep fr tg rd:Int)(A:Option Addr)(c:Nat)(l:List Ev)(kd qu e pe:Int)(x:Ev)(z:Int)(b1 b2:Nat)(J:l.length<=c)(w:World)(h:Rd w w.heap.size 6 A l.length (bT l))(hb:l.length*48<=reachBytes)(h1:Rd w w.heap.size 1 (aD b1 0) 1 [D z])(h2:Rd w w.heap.size 1 (aD b2 0) 1 [.func (.func 102) #[] #[]]):
 Calls tP 110 #[.agg #[D ro,D ep,D fr,D tg,D rd,.slice A l.length c],.agg (rR kd qu e pe x),pV b1 0,pV b2 0] w (mU w (if ¬(ro=z/\ep=e)then(bV,3)else dM ⟨ro,ep,fr,tg,rd,l⟩ e (l.length:Int) [] true)):=by
 have S:=(((St.start w).dG h2).dG h1).dG h;have M:=hb;unfold reachBytes at M;obtain⟨R,hR⟩:∃R,dM ⟨ro,ep,fr,tg,rd,l⟩ e (l.length:Int) [] true=R:=⟨_,E⟩;rw[hR];refine iW 26 func110 ?_;refine cw [0,1,2,3] ?_;refine zN 2 ?_;refine jM S ?_;intro b1 w2 S3;refine jM S3 ?_;intro b4 w5 S6;refine iL S6 iI ?_;intro b7 w8 I;refine zN 8 ?_;refine vv (v:=D z) (ay E E (aV (Rd.cl (j:=0) (St.rd 4 I E) E))) ?_;by_cases h10:ro=z
 ·refine zN 6 ?_;by_cases h11:ep=e
  ·refine zN 9 ?_;refine vv (v:=.func (.func 102) #[] #[]) (ay E E (aV (Rd.cl (j:=0) (St.rd 5 I E) E))) ?_;refine zN 2 ?_;refine zn eQ ((hR▸YA ro ep fr tg rd A c l kd qu e pe x J _ (St.rd 3 I E) hb)) ?_;rintro _ OI ⟨O,Z,az3,rfl,T17⟩;refine⟨_,E,?_⟩;have rX:=I.ext T17 E;refine zN 2 ?_;refine sa 1 rX kQ ?_;intro Qi xK;refine zN 5 ?_;rw[ah Y];have sU:=xK.bg [6,5,4,3,2,1];exact⟨O,Z,by assumption,E,sU⟩
  refine zN 7 ?_;refine vv kF ?_;refine sa 0 I kQ ?_;intro Jm lY;refine zN 6 ?_;have rJ:=lY.bg [5,4,3,2,1,0];rw[aj Y];exact⟨none,0,aC _,E,aG rJ⟩
 refine zN 13 ?_;refine vv kF ?_;refine sa 0 I kQ ?_;intro RD nC;refine zN 6 ?_;have uE:=nC.bg [5,4,3,2,1,0];rw[aj Y];exact⟨none,0,aC _,E,aG uE⟩
def ajP(ro ep fr tg rd:Int)(A:Option Addr)(c:Nat)(l:List Ev)(kd qu e pe:Int)(x:Ev)(z:Int)(b1 b2:Nat)(he:0<=e/\e<=1048576)(w:World)(h:Rd w w.heap.size 6 A l.length (bT l))(hb:l.length*48<=reachBytes)(h1:Rd w w.heap.size 1 (aD b1 0) 1 [D z])(h2:Rd w w.heap.size 1 (aD b2 0) 1 [.func (.func 103) #[] #[]]):
 Calls tP 110 #[.agg #[D ro,D ep,D fr,D tg,D rd,.slice A l.length c],.agg (rR kd qu e pe x),pV b1 0,pV b2 0] w (mU w (if ¬(ro=z/\ep=e)then(bV,3)else gZ ⟨ro,ep,fr,tg,rd,l⟩ (e+1))):=by
 have S:=(((St.start w).dG h2).dG h1).dG h;have J:=hb;unfold reachBytes at J;obtain⟨R,hR⟩:∃R,gZ ⟨ro,ep,fr,tg,rd,l⟩ (e+1)=R:=⟨_,E⟩;rw[hR];refine iW 26 func110 ?_;refine cw [0,1,2,3] ?_;refine zN 2 ?_;refine jM S ?_;intro b1 w2 S3;refine jM S3 ?_;intro b4 w5 S6;refine iL S6 iI ?_;intro b7 w8 I;refine zN 8 ?_;refine vv (v:=D z) (ay E E (aV (Rd.cl (j:=0) (St.rd 4 I E) E))) ?_;by_cases h10:ro=z
 ·refine zN 6 ?_;by_cases h11:ep=e
  ·refine zN 9 ?_;refine vv (v:=.func (.func 103) #[] #[]) (ay E E (aV (Rd.cl (j:=0) (St.rd 5 I E) E))) ?_;refine zN 2 ?_;refine zn eQ ((hR▸YB ro ep fr tg rd A c l kd qu e pe x he _ (St.rd 3 I E) hb)) ?_;rintro _ OI ⟨M,O,Z,rfl,T17⟩;refine⟨_,E,?_⟩;have rX:=I.ext T17 E;refine zN 2 ?_;refine sa 1 rX kQ ?_;intro Qi xK;refine zN 5 ?_;rw[ah Y];have sU:=xK.bg [6,5,4,3,2,1];exact⟨M,O,by assumption,E,sU⟩
  refine zN 7 ?_;refine vv kF ?_;refine sa 0 I kQ ?_;intro Jm lY;refine zN 6 ?_;have rJ:=lY.bg [5,4,3,2,1,0];rw[aj Y];exact⟨none,0,aC _,E,aG rJ⟩
 refine zN 13 ?_;refine vv kF ?_;refine sa 0 I kQ ?_;intro RD nC;refine zN 6 ?_;have uE:=nC.bg [5,4,3,2,1,0];rw[aj Y];exact⟨none,0,aC _,E,aG uE⟩
def vV(z:Int)(n:FuncId)(w:World):
 Calls tP 98 #[D z,.func (.func n) #[] #[]] w λe w'=> ∃b1 b2,e=.returned (.func (.func 110) #[] #[pV b1 0,pV b2 0])/\St w.heap.size w w' [.Pj b1 #[D z] 3,.Pj b2 #[.func (.func n) #[] #[]] 167]:=by
 have S:=St.start w;refine iW 6 func98 ?_;refine cw [0,1] ?_;refine zN 2 ?_;refine Y7 S ?_;intro b1 O h;refine Y7 h ?_;intro b4 I J;refine zN 5 ?_;refine vv MQ ?_;refine zN 5 ?_;have M:St w.heap.size w I [_,_]:=J.re [1,0] dQ;exact⟨b1,b4,E,M⟩
def ajQ(w:World)(e:Ending)(w':World):Prop:= ∃m d1 g1 d2 g2 d3 g3 d4 g4 d5 g5,e=.returned (.map (some m))/\St w.heap.size w w' [.Pj d5 #[D 3] 3,.Pj g5 #[.func (.func 103) #[] #[]] 167,.Pj d4 #[D 4] 3,.Pj g4 #[.func (.func 102) #[] #[]] 167,.Pj d3 #[D 4] 3,.Pj g3 #[.func (.func 99) #[] #[]] 167,.Pj d2 #[D 1] 3,.Pj g2 #[.func (.func 100) #[] #[]] 167,.Pj d1 #[D 1] 3,.Pj g1 #[.func (.func 99) #[] #[]] 167,.loc m (tq tP 3 (λy=>if y=7 then some (.func (.func 110) #[] #[pV d5 0,pV g5 0])else(λy=>if y=6 then some (.func (.func 110) #[] #[pV d4 0,pV g4 0])else(λy=>if y=5 then some (.func (.func 110) #[] #[pV d3 0,pV g3 0])else(λy=>if y=4 then some (.func (.func 101) #[] #[])else(λy=>if y=3 then some (.func (.func 110) #[] #[pV d2 0,pV g2 0])else(λy=>if y=2 then some (.func (.func 110) #[] #[pV d1 0,pV g1 0])else(λy=>if y=1 then some (.func (.func 97) #[] #[])else(λ_=>none) y) y) y) y) y) y) y) 7)]
def qo(w:World):
 Calls tP 74 #[] w (ajQ w):=by
 have S:=St.start w;refine iW 8 func74 ?_;refine bK (l':=[]) trivial (aX (aH (va ?_)));refine zN 4 ?_;refine Nl (k:=3) S (wn E) E E E ?_;intro b1 w2 S3;refine mP (e:=167) 0 S3 (wn E) E E E E E E underlying3 Tryz.underlying168 dQ dQ ?_;intro w4 S5;refine eB eQ (vV 1 99 _) ?_;rintro _ w8 ⟨b6,b7,rfl,h⟩;refine⟨_,E,?_⟩;have S9:=S5.ext h E;refine mP (e:=167) 2 S9 (wn E) E E E E E E underlying3 Tryz.underlying168 dQ dQ ?_;intro KM I;refine eB eQ (vV 1 100 _) ?_;rintro _ OI ⟨J,M,rfl,O⟩;refine⟨_,E,?_⟩;have Z:=I.ext O E;refine mP (e:=167) 4 Z (wn E) E E E E E E underlying3 Tryz.underlying168 dQ dQ ?_;intro Qi xK;refine mP (e:=167) 4 xK (wn E) E E E E E E underlying3 Tryz.underlying168 dQ dQ ?_;intro w20 yj;refine eB eQ (vV 4 99 _) ?_;rintro _ RD ⟨b22,Dj,rfl,T26⟩;refine⟨_,E,?_⟩;have nC:=yj.ext T26 E;refine mP (e:=167) 6 nC (wn E) E E E E E E underlying3 Tryz.underlying168 dQ dQ ?_;intro Rs wm;refine eB eQ (vV 4 102 _) ?_;rintro _ w31 ⟨b29,b30,rfl,T33⟩;refine⟨_,E,?_⟩;have uh:=wm.ext T33 E;refine mP (e:=167) 8 uh (wn E) E E E E E E underlying3 Tryz.underlying168 dQ dQ ?_;intro w34 Gc;refine eB eQ (vV 3 103 _) ?_;rintro _ w38 ⟨RF,b37,rfl,T40⟩;refine⟨_,E,?_⟩;have Ey:=Gc.ext T40 E;refine mP (e:=167) 10 Ey (wn E) E E E E E E underlying3 Tryz.underlying168 dQ dQ ?_;intro w41 Hr;refine zN 6 ?_;exact⟨b1,b6,b7,J,M,b22,Dj,b29,b30,RF,b37,E,Hr⟩
def oK(w:World)(r:bF×Int)(e:Ending)(w':World):Prop:= ∃A c,∃_:r.1.JU.length<=c,e=.returned (.tuple #[.agg #[D r.1.GR,D r.1.ep,D r.1.fr,D r.1.tg,D r.1.rd,.slice A r.1.JU.length c],D r.2])/\St w.heap.size w w' [.dB 6 A r.1.JU.length (bT r.1.JU)]
def Dl(h:aM r=0):1<=r.kind/\r.kind<=7/\0<=r.Qu/\r.Qu<=3/\0<=r.Pf/\r.Pf<=1048576/\0<=r.Vk/\r.Vk<=4:=by
 unfold aM at h
 split at h
 ·cases h
 rename_i h1
 split at h
 ·cases h
 rename_i I
 simp[mo]at h1 I;omega
def ajR(h:¬(1<=r.kind/\r.kind<=7)):aM r=3:=by
 unfold aM;rw[aj (by simp[mo];omega)]
def Dm(h:¬aA b=0):fH b r=(bV,aA b):=by unfold fH;rw[aj h]
def Dn(h:aA b=0)(h1:¬aM r=0):fH b r=(bV,aM r):=by unfold fH;rw[ah (λk=>k h),aj h1]
def DY(h:aA b=0)(h1:aM r=0)(I:b.GR=2\/(r.kind≠3/\r.kind≠4/\r.Vk≠0)):fH b r=(bV,3):=by unfold fH;rw[ah (λk=>k h),ah (λk=>k h1),aj I]
def xZ(h:aA b=0)(h1:aM r=0)(I:¬(mD b r).2=0):fH b r=(bV,3):=by
 unfold fH;rw[ah (λk=>k h),ah (λk=>k h1)];split
 ·rfl
 first|rfl|rw[aj I]
def l8(h:aA b=0)(h1:aM r=0)(I:¬(b.GR=2\/(r.kind≠3/\r.kind≠4/\r.Vk≠0)))(J:(mD b r).2=0):fH b r=((mD b r).1,0):=by
 unfold fH;rw[ah (λk=>k h),ah (λk=>k h1),ah I,ah (λk=>k J)]
def auP:mD b ⟨1,qu,e,pe,x⟩=jR b e:=by simp[mD]
def ah5:mD b ⟨2,qu,e,pe,x⟩=if ¬(b.GR=1/\b.ep=e)then(bV,3)else FN b x:=by simp[mD]
def vH:mD b ⟨3,qu,e,pe,x⟩=if ¬(b.GR=1/\b.ep=e)then(bV,3)else ZV b pe:=by simp[mD]
def auQ:mD b ⟨4,qu,e,pe,x⟩=dR b e pe:=by simp[mD]
def ah6:mD b ⟨5,qu,e,pe,x⟩=if ¬(b.GR=4/\b.ep=e)then(bV,3)else FN b x:=by simp[mD]
def auR:mD b ⟨6,qu,e,pe,x⟩=if ¬(b.GR=4/\b.ep=e)then(bV,3)else dM b e b.JU.length [] true:=by simp[mD]
def auS:mD b ⟨7,qu,e,pe,x⟩=if ¬(b.GR=3/\b.ep=e)then(bV,3)else gZ b (e+1):=by simp[mD]
def ajS{a:Int}:(dM b e a [] true).1.JU.length<=b.JU.length+1:=by
 unfold dM
 repeat' split
 all_goals simp[bV]
def IC:(mD b r).1.JU.length<=b.JU.length+1:=by
 have h:=ajS (b:=b) (e:=r.Pf) (a:=b.JU.length);unfold mD
 (repeat' split)<;>first|exact h|(unfold jR;(repeat' split)<;>simp[bV])|(unfold dR;(repeat' split)<;>simp[bV])|(unfold gZ;(repeat' split)<;>simp[bV])|(unfold FN;(repeat' split)<;>simp[bV])|simp[bV,ZV]
end
def Mc{P:Program}{f:FuncId}{vs:Array Value}{w:World}{p:Prop}{X dX:Ending}{B:Nat}(h:Calls P f vs w (λI w'=>(¬p/\I=X\/p/\I=dX)/\Below B w w'))(J:p):Calls P f vs w (λI w'=>I=dX/\Below B w w'):=
 h.mono λ_ _ k=>⟨k.1.elim (λq=>av J q.1) (λq=>q.2),k.2⟩
def RG{P:Program}{f:FuncId}{vs:Array Value}{w:World}{p:Prop}{X dX:Ending}{B:Nat}(h:Calls P f vs w (λI w'=>(¬p/\I=X\/p/\I=dX)/\Below B w w'))(J:¬p):Calls P f vs w (λI w'=>I=X/\Below B w w'):=
 h.mono λ_ _ k=>⟨k.1.elim (λq=>q.2) (λq=>av q.1 J),k.2⟩
def St.Bu{B:Nat}{w0 w:World}{fs:List Nf}{b:Nat}{R R':Obj->Prop}(i:Nat)(S:St B w0 w fs)(hi:fs[i]? =some (.loc b R))(h:∀o,R o->R' o):St B w0 w (fs.set i (.loc b R')):=by
 obtain⟨o,I,J⟩:=S.loc i hi;exact S.Y1 i hi ⟨E,E,E,E,λ_ _=>E⟩ I (h _ J)
def uR{P:Program}{k:TypeId}{f:Int->Option Value}{n:Nat}{o:Obj}{z:Int}{v:Value}(h:tq P k f n o)(M:f z=some v):tq P k (λy=>if y=z then some v else none) n o:=by
 obtain⟨es,c,e,h⟩:=h;refine⟨es,c,e,λw b O=>?_⟩;obtain⟨fP,h1,Z⟩:=h w b O;refine⟨fP,h1,λy u I=>?_⟩;dsimp only at I;by_cases J:y=z
 ·rw[aj J]at I;cases I;rw[J];exact Z z v M
 rw[ah J]at I;cases I
def WQ(w:World):Calls tP 74 #[] w λe w'=> ∃m,e=.returned (.map (some m))/\St w.heap.size w w' [.loc m (tq tP 3 (λy=>if y=1 then some (.func (.func 97) #[] #[])else none) 7)]:=
 (qo w).mono λ_ _ ⟨m,I,J,M,g2,O,Z,d4,g4,d5,g5,h,S⟩=>⟨m,h,(St.del 0 (St.del 1 (St.del 2 (St.del 3 (St.del 4 (St.del 5 (St.del 6 (St.del 7 (St.del 8 (St.del 9 (St.Bu 10 S E (λ_ h=>uR h (z:=1) E))))))))))))⟩
def ajT(w:World):Calls tP 74 #[] w λe w'=> ∃m I J,e=.returned (.map (some m))/\St w.heap.size w w' [.Pj I #[D 1] 3,.Pj J #[.func (.func 99) #[] #[]] 167,.loc m (tq tP 3 (λy=>if y=2 then some (.func (.func 110) #[] #[pV I 0,pV J 0])else none) 7)]:=
 (qo w).mono λ_ _ ⟨m,I,J,M,g2,O,Z,d4,g4,d5,g5,h,S⟩=>⟨m,I,J,h,(St.del 0 (St.del 1 (St.del 2 (St.del 3 (St.del 4 (St.del 5 (St.del 6 (St.del 7 (St.Bu 10 S E (λ_ h=>uR h (z:=2) E))))))))))⟩
def WR(w:World):Calls tP 74 #[] w λe w'=> ∃m I g2,e=.returned (.map (some m))/\St w.heap.size w w' [.Pj I #[D 1] 3,.Pj g2 #[.func (.func 100) #[] #[]] 167,.loc m (tq tP 3 (λy=>if y=3 then some (.func (.func 110) #[] #[pV I 0,pV g2 0])else none) 7)]:=
 (qo w).mono λ_ _ ⟨m,J,M,I,g2,O,Z,d4,g4,d5,g5,h,S⟩=>⟨m,I,g2,h,(St.del 0 (St.del 1 (St.del 2 (St.del 3 (St.del 4 (St.del 5 (St.del 8 (St.del 9 (St.Bu 10 S E (λ_ h=>uR h (z:=3) E))))))))))⟩
def WS(w:World):Calls tP 74 #[] w λe w'=> ∃m,e=.returned (.map (some m))/\St w.heap.size w w' [.loc m (tq tP 3 (λy=>if y=4 then some (.func (.func 101) #[] #[])else none) 7)]:=
 (qo w).mono λ_ _ ⟨m,I,J,M,g2,O,Z,d4,g4,d5,g5,h,S⟩=>⟨m,h,(St.del 0 (St.del 1 (St.del 2 (St.del 3 (St.del 4 (St.del 5 (St.del 6 (St.del 7 (St.del 8 (St.del 9 (St.Bu 10 S E (λ_ h=>uR h (z:=4) E))))))))))))⟩
def ajU(w:World):Calls tP 74 #[] w λe w'=> ∃m I J,e=.returned (.map (some m))/\St w.heap.size w w' [.Pj I #[D 4] 3,.Pj J #[.func (.func 99) #[] #[]] 167,.loc m (tq tP 3 (λy=>if y=5 then some (.func (.func 110) #[] #[pV I 0,pV J 0])else none) 7)]:=
 (qo w).mono λ_ _ ⟨m,M,O,Z,g2,I,J,d4,g4,d5,g5,h,S⟩=>⟨m,I,J,h,(St.del 0 (St.del 1 (St.del 2 (St.del 3 (St.del 6 (St.del 7 (St.del 8 (St.del 9 (St.Bu 10 S E (λ_ h=>uR h (z:=5) E))))))))))⟩
def ajV(w:World):Calls tP 74 #[] w λe w'=> ∃m I J,e=.returned (.map (some m))/\St w.heap.size w w' [.Pj I #[D 4] 3,.Pj J #[.func (.func 102) #[] #[]] 167,.loc m (tq tP 3 (λy=>if y=6 then some (.func (.func 110) #[] #[pV I 0,pV J 0])else none) 7)]:=
 (qo w).mono λ_ _ ⟨m,M,O,Z,g2,d3,g3,I,J,d5,g5,h,S⟩=>⟨m,I,J,h,(St.del 0 (St.del 1 (St.del 4 (St.del 5 (St.del 6 (St.del 7 (St.del 8 (St.del 9 (St.Bu 10 S E (λ_ h=>uR h (z:=6) E))))))))))⟩
def ajW(w:World):Calls tP 74 #[] w λe w'=> ∃m I J,e=.returned (.map (some m))/\St w.heap.size w w' [.Pj I #[D 3] 3,.Pj J #[.func (.func 103) #[] #[]] 167,.loc m (tq tP 3 (λy=>if y=7 then some (.func (.func 110) #[] #[pV I 0,pV J 0])else none) 7)]:=
 (qo w).mono λ_ _ ⟨m,M,O,Z,g2,d3,g3,d4,g4,I,J,h,S⟩=>⟨m,I,J,h,(St.del 2 (St.del 3 (St.del 4 (St.del 5 (St.del 6 (St.del 7 (St.del 8 (St.del 9 (St.Bu 10 S E (λ_ h=>uR h (z:=7) E))))))))))⟩
def OL(k:Int)(h:k≠3/\k≠4)(w:World):
 Calls tP 73 #[D k] w (Jl w true):=by
 have S:=St.start w;refine iW 9 func73 ?_;refine cw [0] ?_;refine zN 18 ?_;exact⟨E,S.QM⟩
def OM(k:Int)(h:k=3\/k=4)(w:World):
 Calls tP 73 #[D k] w (Jl w false):=by
 have S:=St.start w;refine iW 9 func73 ?_;refine cw [0] ?_;refine zN 8 ?_;by_cases h1:k=3
 ·refine zN 10 ?_;exact⟨E,S.QM⟩
 refine zN 3 ?_;by_cases I:k=4
 ·refine zN 7 ?_;exact⟨E,S.QM⟩
 refine zN 7 ?_;omega
def Md(T:List bF)(q:Int):bF:=T.getD q.toNat bV
noncomputable def qH:List dN->Nat->List bF->Option (List bF)×Nat×Int
 |[],_,T=>(some T,0,0)
 |r::rs,i,T=>if aM r≠0 then(none,i,aM r)else if (fH (Md T r.Qu) r).2≠0 then(none,i,(fH (Md T r.Qu) r).2)else qH rs (i+1) (T.set r.Qu.toNat (fH (Md T r.Qu) r).1)
noncomputable def allM(l:List dN):Option (List bF)×Nat×Int:=qH l 0 [bV,bV,bV,bV]
section
variable {l:List dN}{k:Nat}{r:dN}{T:List bF}{R:bF×Int}
def U2{α:Type}{l:List α}{k:Nat}{x:α}(h:l[k]? =some x):l.drop k=x::l.drop (k+1):=by
 obtain⟨I,rfl⟩:=cK.1 h;exact yM I
def aos(h:l[k]? =some r)(I:¬aM r=0):qH (l.drop k) k T=(none,k,aM r):=by rw[U2 h,qH,aj I]
def ac7(h:l[k]? =some r)(I:aM r=0)(J:fH (Md T r.Qu) r=R)(M:¬R.2=0):qH (l.drop k) k T=(none,k,R.2):=by subst J;rw[U2 h,qH,ah (by simp[I]),aj M]
def WT(h:l[k]? =some r)(I:aM r=0)(J:fH (Md T r.Qu) r=R)(M:R.2=0):qH (l.drop k) k T=qH (l.drop (k+1)) (k+1) (T.set r.Qu.toNat R.1):=by subst J;rw[U2 h,qH,ah (by simp[I]),ah (by simp[M])]
def aot(h:l.length<=k):qH (l.drop k) k T=(some T,0,0):=by rw[GL h,qH]
end
structure BX where
 b:bF
 A:Option Addr
 c:Nat
def BX.cells(x:BX):List Value:=[D x.b.GR,D x.b.ep,D x.b.fr,D x.b.tg,D x.b.rd,.slice x.A x.b.JU.length x.c]
def Vi:BX:=⟨bV,none,0⟩
def vZ:List BX:=[Vi,Vi,Vi,Vi]
def aou(l:List BX):∀u∈l.flatMap BX.cells,u.oneCell'=true:=by
 intro u h;rw[Dx]at h;obtain⟨z,_,I⟩:=h;simp[BX.cells]at I
 rcases I with rfl|rfl|rfl|rfl|rfl|rfl<;>rfl
def ah7(x:BX):Nf:=.dB 6 x.A x.b.JU.length (bT x.b.JU)
def gL(bs:List BX):List Nf:=bs.map ah7
section
variable {B:Nat}{w0 w:World}{bs:List BX}{k:Nat}{y:BX}
def aov{q:Int}(h:bs[q.toNat]? =some y):Md (bs.map BX.b) q=y.b:=by
 unfold Md;rw[ac8,qX,h];rfl
def ah8(pre:List Nf)(S:St B w0 w (pre++gL bs))(h:bs[k]? =some y):Rd w w.heap.size 6 y.A y.b.JU.length (bT y.b.JU):=
 St.dB (pre.length+k) S (by rw[pK (nM _ _),GV,gL,qX,h];rfl)
def St.pull{fs fs':List Nf}(σ:Nat->Nat)(S:St B w0 w fs)(hs:∀(i:Nat) (f:Nf),fs'[i]? =some f->fs[σ i]? =some f)(hi:∀i j:Nat,i≠j->i<fs'.length->j<fs'.length->σ i≠σ j):St B w0 w fs':=
 ⟨S.QM,S.base,λi f h=>S.all _ f (hs i f h),λi j f g I h1 J=>S.sep _ _ f g (hi i j I (cK.1 h1).1 (cK.1 J).1) (hs i f h1) (hs j g J)⟩
def ah9(pre:List Nf){z:BX}(S:St B w0 w (pre++(ah7 z::gL bs)))(J:k<bs.length):St B w0 w (pre++gL (bs.set k z)):=by
 refine St.pull (λi=>if i<pre.length then i else if i=pre.length+k then pre.length else i+1) S (λi f h=>?_) (λi j M _ _=>?_)
 ·by_cases h1:i<pre.length
  ·simp only[if_pos h1];rw[oz h1]at h⊢;exact h
  obtain⟨d,rfl⟩:∃d,i=pre.length+d:=⟨i-pre.length,by omega⟩;rw[pK (nM _ _),GV,gL,map_set,getElem?_set]at h;simp only[if_neg h1];by_cases I:k=d
  ·subst I;rw[aj E]at h;rw[aj E,pK aB,TH];rw[gK,aj J]at h;exact h
  rw[ah I]at h;rw[ah Y,pK Y,show pre.length+d+1-pre.length=d+1 from by omega];exact h
 repeat' split
 all_goals omega
def aow{h I:Nf}(S:St B w0 w [h,I]):St B w0 w (h::I::gL vZ):=(aG (s:=6) (aG (s:=6) (aG (s:=6) (aG (s:=6) S)))).re [4,5,0,1,2,3] dQ
end
def uj{α:Type}{enc:α->List Value}{sz:Nat}(I:∀x,(enc x).length=sz)(z:α):∀(k:Nat) (l:List α),k<l.length->uN (l.flatMap enc) (k*sz) (enc z)=(l.set k z).flatMap enc
 |_,[],h=>av h (G9 _)
 | 0,x::l,_=>by
  rw[nK,GN,set_cons_zero,nK];have:∀(vs us xs:List Value),us.length=vs.length->uN (us++xs) 0 vs=vs++xs:=by
   have J:∀(vs us ps xs:List Value),us.length=vs.length->uN (ps++(us++xs)) ps.length vs=ps++(vs++xs):=by
    intro vs
    induction vs with
    |nil=>intro us ps xs h;rw[qY.1 h];rfl
    |cons v vs M=>
     intro us ps xs h;obtain⟨u,us,rfl⟩:∃u O,us=u::O:=by
      cases us with
      |nil=>simp at h
      |cons u us=>exact⟨u,us,E⟩
     rw[uN];have e:(ps++(u::us++xs)).set ps.length v=(ps++[v])++(us++xs):=by simp
     rw[e];have:=M us (ps++[v]) xs (by simpa using h);rw[aY]at this;rw[show ps.length+1=ps.length+[v].length from E,this];simp
   intro vs us xs h;exact J vs us [] xs h
  exact this _ _ _ (by rw[I,I])
 |k+1,x::l,h=>by
  rw[nK,Bf,nK,<-uj I z k l (by simpa using h)];have J:∀(vs us xs:List Value) (j:Nat),uN (us++xs) (us.length+j) vs=us++uN xs j vs:=by
   intro vs
   induction vs with
   |nil=>intro us xs j;rfl
   |cons v vs M=>
    intro us xs j;rw[uN,uN,set_append_right _ _ (nM _ _),GV,jT,M]
  rw[mK,qR,<-I x,J]
def auT(w:World)(R:Option (List bF)×Nat×Int)(e:Ending)(w':World):Prop:=
 (R.1=none->e=.returned (.tuple #[.slice none 0 0,D (R.2.1:Int),D R.2.2])/\Below w.heap.size w w')/\
 (∀T,R.1=some T-> ∃b bs,bs.map BX.b=T/\bs.length=4/\(∀y∈bs,y.b.JU.length<=y.c)/\e=.returned (.tuple #[.slice (some ⟨b,0,none⟩) 4 4,D (R.2.1:Int),D R.2.2])/\St w.heap.size w w' (.own 58 6 (.slice (some ⟨b,0,none⟩) 4 4) 4 (bs.flatMap BX.cells)::gL bs))
def afr{b:bF}{r:dN}:(fH b r).1.JU.length<=b.JU.length+1:=by
 have h:=IC (b:=b) (r:=r);unfold fH
 repeat' split
 all_goals first|exact h|simp[bV]
def ajX(ro ep fr tg rd:Int)(A:Option Addr)(c:Nat)(l:List Ev)(qu e pe:Int)(x:Ev)(hlc:l.length<=c)(w:World)(h:Rd w w.heap.size 6 A l.length (bT l))(hb:l.length*48<=reachBytes):
 Calls tP 54 #[.agg #[D ro,D ep,D fr,D tg,D rd,.slice A l.length c],.agg (rR 1 qu e pe x)] w (oK w (fH ⟨ro,ep,fr,tg,rd,l⟩ ⟨1,qu,e,pe,x⟩)):=by
 have S:=(St.start w).dG h;have hb2:=hb;unfold reachBytes at hb2;obtain⟨R,hR⟩:∃R,mD ⟨ro,ep,fr,tg,rd,l⟩ ⟨1,qu,e,pe,x⟩=R:=⟨_,E⟩;have hM:=hR;rw[auP]at hM
 try dsimp only at hM
 have aqh:R.1.JU.length<=l.length+1:=by rw[<-hR];exact IC
 refine iW 54 func54 ?_;refine cw [0,1] ?_;refine zN 2 ?_;refine jM S ?_;intro b1 w2 S3;refine jM S3 ?_;intro b4 w5 S6;refine iL S6 iI ?_;intro b7 w8 S9;refine zN 7 ?_;refine Vm eQ S9 (fF ro ep fr tg rd A c l _ (St.rd 3 S9 E) Y) ?_;intro w10 Fp;refine zN 6 ?_;by_cases I:aA ⟨ro,ep,fr,tg,rd,l⟩=0
 ·have hln:=iX (gB I).2;dsimp only at hln;refine zN 10 ?_;refine Vm eQ Fp (lq ⟨1,qu,e,pe,x⟩ _) ?_;intro OE ku;refine zN 6 ?_;by_cases J:aM ⟨1,qu,e,pe,x⟩=0
  ·have hrz:=Dl J;dsimp only at hrz;refine zN 11 ?_;by_cases h18:ro=2
   ·refine zN 16 ?_;refine vv kF ?_;refine sa 0 ku kQ ?_;intro J4 sU;refine zN 6 ?_;have yj:=sU.bg [3,2,1,0];rw[DY I J uQ];exact⟨none,0,iJ 0,E,aG yj⟩
   refine zN 4 ?_;refine BI eQ (OL 1 dQ _) ?_;rintro _ w22 ⟨rfl,RH⟩;refine⟨_,E,?_⟩;have rJ:=ku.on RH;refine zN 3 ?_;by_cases xO:pe=0
   ·refine zN 8 ?_;refine pW (X:=Nat×(Option Addr)×Nat×Nat) (λxv=>[(4,pV b7 0),(5,D 0),(8,pV xv.1 0),(9,D R.2)]) (λxv wr=>St w.heap.size w wr [.Pj xv.1 (bR R.1 xv.2.1 xv.2.2.1) 58,.dB 6 xv.2.1 R.1.JU.length ((R.1.JU).flatMap Ev.cells),.loc xv.2.2.2 (tq tP 3 (λy=>if y=1 then some (.func (.func 97) #[] #[])else none) 7),.Pj b7 zB 58,.Pj b4 (rR 1 qu e pe x) 132,.Pj b1 #[D ro,D ep,D fr,D tg,D rd,.slice A l.length c] 58,.rd 6 A l.length ((l).flatMap Ev.cells)]) ?_ ?_
    ·have uE:=rJ.drew;refine aO 13 uE [] ?_;refine aP 4 ?_;refine jv (n:=8) (r:=0) (s:=10) kQ ?_ ?_
     ·refine lN 0 E eQ (WQ _) ?_;rintro _ w32 ⟨m31,rfl,T34⟩;refine⟨_,E,?_⟩;have M:=uE.ext T34 E;refine eH ?_;refine jv (n:=7) (r:=3) (s:=10) kQ ?_ ?_
      ·refine ko (i:=3) E E (v:=.func (.func 97) #[] #[]) (wn E) E E (lV 0 M E E E E underlying3 Tryz.underlying168 (Tryz.zeroValue167 _) dQ E) ?_;refine eH ?_;refine jv (n:=6) (r:=6) (s:=10) kQ ?_ ?_
       ·have HC:=zx ro ep fr tg rd A c l 1 qu e pe x _ (St.rd 4 M E) hb;rw[hM]at HC;refine pQ 6 E eQ (HC) ?_;rintro _ w38 ⟨A35,c36,aJB,rfl,T40⟩;refine⟨_,E,?_⟩;have Ey:=M.ext T40 E;clear HC;refine aP 4 ?_;refine bG 10 ?_;refine nQ 10 E Ey iI ?_;intro b44 w45 zF;refine eH ?_;refine bG 11 ?_;refine sn 11 E 0 zF kQ ?_;intro w47 Dh;refine aP 3 ?_;refine eO (b44,A35,c36,m31) ?_ lS;exact Dh
       refine nQ 10 E M iI ?_;intro b50 w51 rH;refine eH ?_;refine bG 6 ?_;have HC:=zx ro ep fr tg rd A c l 1 qu e pe x _ (St.rd 5 rH E) hb;rw[hM]at HC;refine pQ 6 E eQ (HC) ?_;rintro _ w56 ⟨A53,c54,aJC,rfl,T58⟩;refine⟨_,E,?_⟩;have yR:=rH.ext T58 E;clear HC;refine aP 4 ?_;refine bG 11 ?_;refine sn 11 E 1 yR kQ ?_;intro w62 zD;refine aP 3 ?_;have Hu:St w.heap.size w w62 [_,_,_,_,_,_,_]:=zD.re [1,0,2,3,4,5,6] dQ;refine eO (b50,A53,c54,m31) ?_ lS;exact Hu
      refine nQ 10 E M iI ?_;intro b66 w67 Fu;refine eH ?_;refine bG 3 ?_;refine ko (i:=3) E E (v:=.func (.func 97) #[] #[]) (wn E) E E (lV 1 Fu E E E E underlying3 Tryz.underlying168 (Tryz.zeroValue167 _) dQ E) ?_;refine eH ?_;refine bG 6 ?_;have HC:=zx ro ep fr tg rd A c l 1 qu e pe x _ (St.rd 5 Fu E) hb;rw[hM]at HC;refine pQ 6 E eQ (HC) ?_;rintro _ w72 ⟨A69,c70,aJD,rfl,T74⟩;refine⟨_,E,?_⟩;have xu:=Fu.ext T74 E;clear HC;refine aP 4 ?_;refine bG 11 ?_;refine sn 11 E 1 xu kQ ?_;intro w78 F4;refine aP 3 ?_;have xJ:St w.heap.size w w78 [_,_,_,_,_,_,_]:=F4.re [1,0,2,3,4,5,6] dQ;refine eO (b66,A69,c70,m31) ?_ lS;exact xJ
     refine nQ 10 E uE iI ?_;intro b82 w83 Jp;refine eH ?_;refine bG 0 ?_;refine lN 0 E eQ (WQ _) ?_;rintro _ w86 ⟨m85,rfl,T88⟩;refine⟨_,E,?_⟩;have Ga:=Jp.ext T88 E;refine eH ?_;refine bG 3 ?_;refine ko (i:=3) E E (v:=.func (.func 97) #[] #[]) (wn E) E E (lV 0 Ga E E E E underlying3 Tryz.underlying168 (Tryz.zeroValue167 _) dQ E) ?_;refine eH ?_;refine bG 6 ?_;have HC:=zx ro ep fr tg rd A c l 1 qu e pe x _ (St.rd 5 Ga E) hb;rw[hM]at HC;refine pQ 6 E eQ (HC) ?_;rintro _ w92 ⟨A89,c90,aJE,rfl,T94⟩;refine⟨_,E,?_⟩;have F6:=Ga.ext T94 E;clear HC;refine aP 4 ?_;refine bG 11 ?_;refine sn 11 E 2 F6 kQ ?_;intro w98 S99;refine aP 3 ?_;have zw:St w.heap.size w w98 [_,_,_,_,_,_,_]:=S99.re [2,0,1,3,4,5,6] dQ;refine eO (b82,A89,c90,m85) ?_ lS;exact zw
    rintro⟨aEc,aNa,aNb,aNc⟩ afs O
    try dsimp only at O
    refine bK (l':=[(4,pV b7 0),(5,D 0),(8,pV aEc 0),(9,D R.2)]) lS (aX (aX (aH (vm ?_))));by_cases arL:R.2=0
    ·refine zN 7 ?_;have Ma:=O.nil 53 6;refine zN 3 ?_;refine eu (news:=(R.1.JU).flatMap Ev.cells) (xs':=(R.1.JU).flatMap Ev.cells) 0 Ma (wn E) E E E E E E (St.dB 2 Ma E) underlying56 tZ E dQ (gV _) lQ Y (E) ?_;intro alr als afg hc114 aJF yH;refine zQ ?_;refine KC 1 yH kQ ?_;intro axB C8;refine zN 5 ?_;refine sa 4 C8 kQ ?_;intro alu yI;refine zN 5 ?_;have Z:=yI.bg [7,6,5,4,3,2,1];rw[l8 I J uQ (by rw[hR];exact arL),hR];rw[fq]at Z⊢;exact⟨alr,als,(fE (Z.own 0 E)).1,E,Z.bU 0 E⟩
    refine zN 6 ?_;refine vv kF ?_;refine sa 3 O kQ ?_;intro afp FM;refine zN 6 ?_;have CY:=FM.bg [6,5,4,3,2,1,0];rw[xZ I J (by rw[hR];exact arL)];exact⟨none,0,iJ 0,E,aG CY⟩
   refine zN 8 ?_;refine vv kF ?_;refine sa 0 rJ kQ ?_;intro awF VR;refine zN 6 ?_;have AJ:=VR.bg [3,2,1,0];rw[DY I J uQ];exact⟨none,0,iJ 0,E,aG AJ⟩
  refine zN 6 ?_;refine vv kF ?_;refine zQ ?_;refine sa 0 ku kQ ?_;intro ZO C9;refine zN 6 ?_;have AL:=C9.bg [3,2,1,0];rw[Dn I J];exact⟨none,0,iJ 0,E,aG AL⟩
 refine zN 6 ?_;refine vv kF ?_;refine zQ ?_;refine sa 0 Fp kQ ?_;intro arM BQ;refine zN 6 ?_;have BN:=BQ.bg [3,2,1,0];rw[Dm I];exact⟨none,0,iJ 0,E,aG BN⟩
end Go.Proofs.YtceeleolddkibaaGreatDoor
