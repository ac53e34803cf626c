import Derived.Test.YtefabpdniidmbaaGreatDoorG0a35c
import Derived.Test.YtefabpdniidmbaaGreatDoorG40da4
import Derived.Test.YtefabpdniidmbaaGreatDoorGa7175
set_option linter.all false
set_option maxRecDepth 100000
set_option maxHeartbeats 8000000
namespace Go.Proofs.YtefabpdniidmbaaGreatDoor
open List Nat Go.Proofs.Tryz ChangeShapes WideShapes RowKit
def Yv(ro ep fr tg rd:Int)(A:Option Addr)(c:Nat)(l:List Ev)(kd qu e pe:Int)(x:Ev)(I:l.length<=c)(w:World)(h:Rd w w.heap.size 6 A l.length (bU l))(J:l.length*48<=reachBytes):
 Calls prog 60 #[.agg #[D ro,D ep,D fr,D tg,D rd,.slice A l.length c],.agg #[D kd,D qu,D e,D pe,D x.kind,D x.OU,D x.id,D x.body,D x.OZ,D x.PX]] w (oJ w (fO ⟨ro,ep,fr,tg,rd,l⟩ ⟨kd,qu,e,pe,x⟩)):=by
 by_cases M:1<=kd/\kd<=7
 ·rcases(by omega:kd=1\/kd=2\/kd=3\/kd=4\/kd=5\/kd=6\/kd=7)with rfl|rfl|rfl|rfl|rfl|rfl|rfl
  ·exact ajU ro ep fr tg rd A c l qu e pe x I w h J
  ·exact ajF ro ep fr tg rd A c l qu e pe x I w h J
  ·exact ajS ro ep fr tg rd A c l qu e pe x I w h J
  ·exact ajV ro ep fr tg rd A c l qu e pe x I w h J
  ·exact ajG ro ep fr tg rd A c l qu e pe x I w h J
  ·exact ajH ro ep fr tg rd A c l qu e pe x I w h J
  exact ajI ro ep fr tg rd A c l qu e pe x I w h J
 exact ajE ro ep fr tg rd A c l kd qu e pe x M w h J
def Kv(w:World):(Instr.makeSlice 43 (D 4) (D 4)).run tP w=.ok (.slice (aD w.heap.size 0) 4 4) (w.alloc (.cells (vO.flatMap BX.cells).toArray 42)):=by
 obtain⟨O,I,J,h,M⟩:=info_parts (P:=tP) (e:=42) (z:=.agg zB) (size:=6) (bytes:=64) kQ;have:=run_makeSlice (P:=tP) w 43 42 O _ underlying43 I J .i64 .i64 4 4 Y Y (by rw[h];decide) (by rw[M];omega) Y;rw[this,h];rw[show madeCells (Value.agg zB).cells ((4:Int).toNat*6)=(vO.flatMap BX.cells).toArray from by kernel_rfl];rfl
def ajZ:∀y∈vO,y.b.Jp.length<=y.c/\y.b.Jp.length<=0:=by
 intro y h;simp[vO]at h;subst h;exact⟨aB,aB⟩
def aib{bs:List BX}{k q:Nat}{z:BX}(h:∀y∈bs,y.b.Jp.length<=y.c/\y.b.Jp.length<=k)(h1:z.b.Jp.length<=z.c)(J:z.b.Jp.length<=k+1):∀y∈bs.set q z,y.b.Jp.length<=y.c/\y.b.Jp.length<=k+1:=by
 intro y M
 rcases mem_or_eq_of_mem_set M with I|I
 ·exact⟨(h y I).1,DL (h y I).2⟩
 rw[I];exact⟨h1,J⟩
def afP(A:Option Addr)(c:Nat)(l:List dN)(w:World)(h:Rd w w.heap.size 10 A l.length (l.flatMap dN.cells))(hb:l.length*80<=reachBytes):
 Calls tP 41 #[.slice A l.length c] w (auK w (allM l)):=by
 have S:=(St.start w).dJ h;have hb2:=hb;unfold reachBytes at hb2;refine jc 46 func41 ?_;refine cw [0] ?_;refine zN 9 ?_;refine uw (V:=λb=>.slice (aD b 0) 4 4) (row:=(vO.flatMap BX.cells).toArray) (t:=42) (n:=4) (s:=6) (xs:=vO.flatMap BX.cells) S (wn E) E E (JZ E E E (Kv _)) E dQ E ?_;intro b1 w2 S3;refine zN 12 ?_;have S4:=anY S3;refine iO (X:=Nat×(List BX)) (λZ=>[(2,.slice none 0 0),(3,D 0),(4,D 0),(5,.slice (aD b1 0) 4 4),(12,.slice A l.length c),(13,D (l.length:Int)),(14,D (Z.1:Int))]) (λZ wr=>(Z.1<=l.length)/\(allM l=qK (l.drop Z.1) Z.1 (Z.2.map BX.b))/\(Z.2.length=4)/\(∀y∈Z.2,y.b.Jp.length<=y.c/\y.b.Jp.length<=Z.1)/\St w.heap.size w wr ((oB b1 Z.2)::(.rd 10 A l.length ((l).flatMap dN.cells))::gT Z.2)) (λZ=>l.length-Z.1) (0,vO) ?_ ?_ ?_
 ·exact⟨aG _,E,E,ajZ,S4⟩
 ·exact Fj
 rintro⟨k,bs⟩ w5 ⟨hi7,O,hi9,M,S6⟩
 try dsimp only at hi7 O hi9 M S6
 refine cB (l':=[(2,.slice none 0 0),(3,D 0),(4,D 0),(5,.slice (aD b1 0) 4 4),(12,.slice A l.length c),(13,D (l.length:Int)),(14,D (k:Int))]) Fj (bH (aL ?_));by_cases h11:(k:Int)< (l.length:Int)
 ·refine zN 12 ?_;obtain⟨b12,o13,rfl⟩:=Rd.addr (St.rd 1 S6 E) Y;obtain⟨I,J⟩:=NA k (St.rd 1 S6 E) Y;refine vv (nC k) ?_;refine vv (aA E E (fu (cs:=dN.cells I) (Rd.Bb (St.rd 1 S6 E) (λ_ _ h=>dF (enc:=dN.cells) (sz:=10) (λ_=>E) J h)))) ?_;refine iU S6 zn ?_;intro b16 Pp tq;refine zQ ?_;refine stA 0 tq kQ ?_;intro J9 tN;refine zN 6 ?_;refine UR eQ tN (lF I _) ?_;intro Iz l6;refine zN 6 ?_;by_cases Um:aO I=0
  ·refine zN 7 ?_;have hrz:=C8 Um;have hq4:I.Qg.toNat<4:=Y;obtain⟨y,hy⟩:∃y,bs[I.Qg.toNat]? =some y:=⟨_,eT Y⟩;have tF:=M y (jN hy);obtain⟨R,hR⟩:∃R,fO y.b I=R:=⟨_,E⟩;have hap:fO (Lg (bs.map BX.b) I.Qg) I=R:=by rw[anX hy];exact hR
   have hal:=ae4 (b:=y.b) (r:=I);rw[hR]at hal;have HP:=λw h=>Yv y.b.F9 y.b.ep y.b.fr y.b.tg y.b.rd y.A y.c y.b.Jp I.kind I.Qg I.ME I.UE I.ev tF.1 w h hQ;rw[show fO ⟨y.b.F9,y.b.ep,y.b.fr,y.b.tg,y.b.rd,y.b.Jp⟩ ⟨I.kind,I.Qg,I.ME,I.UE,I.ev⟩=R from hR]at HP;have nH:=l6.drew;refine aU 13 nH [] ?_;refine aW 3 ?_;refine ak 3 E nH (λ_ _=>nC I.Qg.toNat) ?_;refine ak (v:=.agg (bR y.b y.A y.c)) 4 E nH (λ_ afg=>(aA E E (fu (cs:=BX.cells y) (Rd.Bb (St.Uz 1 afg E) (λ_ _ h=>dF (enc:=BX.cells) (sz:=6) (λ_=>E) hy h))))) ?_;refine dI ?_;refine gL (n:=6) (r:=6) (s:=10) kQ ?_ ?_
   ·refine ku 6 E eQ (HP _ (ahG (pre:=[_,_,_]) nH hy)) ?_;rintro _ w35 ⟨A32,c33,avg,rfl,T37⟩;refine⟨_,E,?_⟩;have vU:=nH.ext T37 E;refine aW 4 ?_;refine bJ 10 ?_;refine nT 10 E vU iN ?_;intro b41 YN wO;refine dI ?_;refine bJ 11 ?_;refine YL 11 E 0 wO kQ ?_;intro Un tC;refine aW 3 ?_;refine zN 5 ?_;by_cases h47:R.2=0
    ·refine zN 11 ?_;refine vv (nC I.Qg.toNat) ?_;refine nY (xs':=(bs.set I.Qg.toNat ⟨R.1,A32,c33⟩).flatMap BX.cells) 3 tC (wn E) E E E E E E zm E (dx E) (by omega) (by rw[fU];exact tV (enc:=BX.cells) (sz:=6) (λ_=>E) ⟨R.1,A32,c33⟩ _ bs (by omega)) ?_;intro YR yM;refine zN 4 ?_;refine vv (v:=D ((k+1:Nat):Int)) jW ?_;refine zN 2 ?_;have zS:=yM.bq [2,0];have yK:=zS.fC [0,2,2];have qO:=ahH (pre:=[_,_]) (z:=⟨R.1,A32,c33⟩) (k:=I.Qg.toNat) yK Y;refine dL (k+1,bs.set I.Qg.toNat ⟨R.1,A32,c33⟩) ?_ Fj (by first|omega|(dsimp only;omega));exact⟨uQ,(by dsimp only;rw[O,Wn J Um hap h47,map_set]),(by dsimp only;rw[length_set];exact hi9),(aib M avg (gB hal (succ_le_succ tF.2))),qO⟩
    refine zN 21 ?_;rw[show allM l=_ from O.trans (acA J Um hap h47)];exact⟨λ_=>⟨E,tC.Qe⟩,λT h=>(by cases h)⟩
   refine nT 10 E nH iN ?_;intro b53 w54 yL;refine dI ?_;refine bJ 6 ?_;refine ku 6 E eQ (HP _ (ahG (pre:=[_,_,_,_]) yL hy)) ?_;rintro _ w59 ⟨A56,c57,avh,rfl,T61⟩;refine⟨_,E,?_⟩;have YV:=yL.ext T61 E;refine aW 4 ?_;refine bJ 11 ?_;refine YL 11 E 1 YV kQ ?_;intro w65 Ke;refine aW 3 ?_;refine zN 5 ?_;by_cases h68:R.2=0
   ·refine zN 11 ?_;refine vv (nC I.Qg.toNat) ?_;refine nY (xs':=(bs.set I.Qg.toNat ⟨R.1,A56,c57⟩).flatMap BX.cells) 3 Ke (wn E) E E E E E E zm E (dx E) (by omega) (by rw[fU];exact tV (enc:=BX.cells) (sz:=6) (λ_=>E) ⟨R.1,A56,c57⟩ _ bs (by omega)) ?_;intro w69 Cq;refine zN 4 ?_;refine vv (v:=D ((k+1:Nat):Int)) jW ?_;refine zN 2 ?_;have vS:=Cq.bq [2,1];have IB:=vS.fC [0,2,2];have tQ:=ahH (pre:=[_,_]) (z:=⟨R.1,A56,c57⟩) (k:=I.Qg.toNat) IB Y;refine dL (k+1,bs.set I.Qg.toNat ⟨R.1,A56,c57⟩) ?_ Fj (by first|omega|(dsimp only;omega));exact⟨uQ,(by dsimp only;rw[O,Wn J Um hap h68,map_set]),(by dsimp only;rw[length_set];exact hi9),(aib M avh (gB hal (succ_le_succ tF.2))),tQ⟩
   refine zN 21 ?_;rw[show allM l=_ from O.trans (acA J Um hap h68)];exact⟨λ_=>⟨E,Ke.Qe⟩,λT h=>(by cases h)⟩
  refine zN 21 ?_;rw[show allM l=_ from O.trans (anU J Um)];exact⟨λ_=>⟨E,l6.Qe⟩,λT h=>(by cases h)⟩
 refine zN 20 ?_;have QG:=S6.bq [1];rw[show allM l=_ from O.trans (anV Y)];exact⟨λh=>(by cases h),λT h=>(by cases h;exact⟨b1,bs,E,hi9,λy hy=>(M y hy).1,E,QG⟩)⟩
def Na(bs:List BX):(gT bs).all OJ.Kz=true:=by
 unfold gT;rw[all_map];exact all_eq_true.2 λ_ _=>E
def Kw(A:Option Addr)(c:Nat)(l:List UInt8)(s:Int)(w:World)(h:Rd w w.heap.size 1 A l.length (Jq l)){TT:List bC}(hT:Fb l s=some TT)(hb:(xA (lH l s).1 (lH l s).2.1).1.length*80<=reachBytes):
 Calls prog 26 #[.agg #[.slice A l.length c,D s]] w (λe w'=> ∃A2 c2 b bs,bs.map BX.b=TT/\bs.length=4/\(∀y∈bs,y.b.Jp.length<=y.c)/\e=.returned (.tuple #[.agg #[.slice A2 (lH l s).1.length c2,D (lH l s).2.1],.slice (aD b 0) 4 4])/\St w.heap.size w w' (.own 42 6 (.slice (aD b 0) 4 4) 4 (bs.flatMap BX.cells):: .dR 1 A2 (lH l s).1.length (Jq (lH l s).1)::gT bs)):=by
 have S:=(St.start w).dJ h;unfold Fb at hT;have HR:=λw h=>ahY A c l s w h;obtain⟨P1,hP1⟩:∃r,lH l s=r:=⟨_,E⟩;rw[hP1]at hT hb HR⊢;have HD:=λA c w h=>FM A c P1.1 P1.2.1 w h;obtain⟨P2,hP2⟩:∃r,xA P1.1 P1.2.1=r:=⟨_,E⟩;rw[hP2]at hT hb HD;refine jc 31 func26 ?_;refine cw [0] ?_;refine zN 2 ?_;refine jT S ?_;intro b1 w2 S3;refine iU S3 BM ?_;intro b4 w5 S6;refine zN 6 ?_;refine dZ eQ (HR _ (St.rd 2 S6 E)) ?_;rintro _ w9 ⟨A7,c8,rfl,T11⟩;refine⟨_,E,?_⟩;have Fx:=S6.ext T11 E;refine zN 3 ?_;refine iU Fx BM ?_;intro b12 Fy pz;refine sa 0 pz kQ ?_;intro NP J;refine zN 6 ?_;refine dZ eQ (HD A7 c8 _ (St.dR 1 J E)) ?_;rintro _ J9 ⟨M,O,rfl,T21⟩;refine⟨_,E,?_⟩;have I:=J.ext T21 E;refine zN 12 ?_;refine dZ eQ (((afP M O P2.1 _ (St.Uz 0 I E) hb).mono λ_ _ h=>h.2 TT hT)) ?_;rintro _ Ma ⟨Z,bs,hm,hl,hcc,rfl,T26⟩;refine⟨_,E,?_⟩;have l7:=I.ext T26 (by simp[Na,OJ.Kz]);have nH:St _ _ Ma ((oB Z bs)::(.own 138 10 (.slice M P2.1.length O) P2.1.length ((P2.1).flatMap dN.cells))::(.Oy b12 #[.slice A7 P1.1.length c8,D P1.2.1] 101)::(.dR 1 A7 P1.1.length (Jq P1.1))::(.Oy b4 #[.slice none 0 0,D 0] 101)::(.Oy b1 #[.slice A l.length c,D s] 101)::(.rd 1 A l.length (Jq l))::gT bs):=St.perm l7 (Perm.cons _ (AO (l₁:=gT bs)));clear I;refine zN 13 ?_;refine stA 4 nH kQ ?_;intro QF vR;refine zN 5 ?_;have vT:=vR.bq [6,5,4,2,1];exact⟨A7,c8,Z,bs,hm,hl,hcc,E,vT⟩
def qC{B kn n turn:Nat}{up:Bool}{tv bv iv pv:Value}{OY:Int}{Hh:Nat->Pl}{Us:Nat->Bool}{w0 w:World}{fs:List OJ}(S:St B w0 w ((.Oy kn (eP n up (tv) OY (bv) Hh Us (iv) (pv) turn) 105)::fs))(M:Uk B w0):
 Calls prog 30 #[pV kn 0] w (λe w'=>e=.returned (.tuple #[])/\ ∃bb:Nat,St B w0 w' ((.Oy kn (eP n up (tv) OY (.slice (aD bb 0) 4 4) (λ_=>nowhere) (λ_=>false) (.slice none 0 0) (.nilFunc) turn) 105):: .own 42 6 (.slice (aD bb 0) 4 4) 4 (vO.flatMap BX.cells)::fs)):=by
 refine jc 27 func30 ?_;refine cw [0] ?_;refine zN 3 ?_;refine uw (V:=λb=>.slice (aD b 0) 4 4) (row:=(vO.flatMap BX.cells).toArray) (t:=42) (n:=4) (s:=6) (xs:=vO.flatMap BX.cells) S (wn E) E E (JZ E E E (Kv _)) E dQ E ?_;intro b1 w2 S3;refine zN 2 ?_;refine kZ (row':=eP n up (tv) OY (.slice (aD b1 0) 4 4) Hh Us (iv) (pv) turn) 1 S3 kQ ?_;intro w4 S5;refine zN 5 ?_;refine vv (v:=.agg #[.bool false,.bool false,.bool false,.bool false]) yz ?_;refine zN 2 ?_;refine kZ (row':=eP n up (tv) OY (.slice (aD b1 0) 4 4) Hh (λ_=>false) (iv) (pv) turn) 1 S5 kQ ?_;intro w6 S7;refine zN 9 ?_;refine Qx (pE (bH (aL (vv EX ?_))));refine zN 14 ?_;have O:=S7.drew;refine aU 7 O [1] ?_;refine aW 2 ?_;refine ak (v:=.agg #[D (-1),D 0]) 2 E (St.del 1 O) (λ_ aGC=>(aA E E (fu (cs:=[D (-1),D 0]) (Uk.rg M aGC)))) ?_;refine aW 2 ?_;refine ak (v:=pV kn (5+0*2)) 5 E (St.del 1 O) (λ_ _=>(bF E E E (fP 0 underlying28 kQ E dQ))) ?_;refine bJ 6 ?_;refine wV (i:=6) E E (cs:= #[D (-1),D 0]) (row':=eP n up (tv) OY (.slice (aD b1 0) 4 4) (PN Hh 0 (⟨-1,0⟩:Pl)) (λ_=>false) (iv) (pv) turn) (fs':=(_::(.Oy kn (eP n up (tv) OY (.slice (aD b1 0) 4 4) (PN Hh 0 (⟨-1,0⟩:Pl)) (λ_=>false) (iv) (pv) turn) 105)::fs)) 1 O (wn E) E E E E E E O5 E (dx E) (by rw[show Array.size (eP _ _ _ _ _ _ _ _ _ _)=20 from E];omega) (Gv (by decide) (p:=(⟨-1,0⟩:Pl))) E ?_;intro NP Z;refine aW 2 ?_;refine zN 3 ?_;refine vv (v:=D 1) jW ?_;refine zN 2 ?_;refine sN (pE (bH (aL (vv EX ?_))));refine zN 14 ?_;have h:=Z.drew;refine aU 7 h [1] ?_;refine aW 2 ?_;refine ak (v:=.agg #[D (-1),D 0]) 2 E (St.del 1 h) (λ_ afA=>(aA E E (fu (cs:=[D (-1),D 0]) (Uk.rg M afA)))) ?_;refine aW 2 ?_;refine ak (v:=pV kn (5+1*2)) 5 E (St.del 1 h) (λ_ _=>(bF E E E (fP 1 underlying28 kQ E dQ))) ?_;refine bJ 6 ?_;refine wV (i:=6) E E (cs:= #[D (-1),D 0]) (row':=eP n up (tv) OY (.slice (aD b1 0) 4 4) (PN (PN Hh 0 (⟨-1,0⟩:Pl)) 1 (⟨-1,0⟩:Pl)) (λ_=>false) (iv) (pv) turn) (fs':=(_::(.Oy kn (eP n up (tv) OY (.slice (aD b1 0) 4 4) (PN (PN Hh 0 (⟨-1,0⟩:Pl)) 1 (⟨-1,0⟩:Pl)) (λ_=>false) (iv) (pv) turn) 105)::fs)) 1 h (wn E) E E E E E E O5 E (dx E) (by rw[show Array.size (eP _ _ _ _ _ _ _ _ _ _)=20 from E];omega) (Gv (by decide) (p:=(⟨-1,0⟩:Pl))) E ?_;intro QL nH;refine aW 2 ?_;refine zN 3 ?_;refine vv (v:=D 2) jW ?_;refine zN 2 ?_;refine sN (pE (bH (aL (vv EX ?_))));refine zN 14 ?_;have I:=nH.drew;refine aU 7 I [1] ?_;refine aW 2 ?_;refine ak (v:=.agg #[D (-1),D 0]) 2 E (St.del 1 I) (λ_ afQ=>(aA E E (fu (cs:=[D (-1),D 0]) (Uk.rg M afQ)))) ?_;refine aW 2 ?_;refine ak (v:=pV kn (5+2*2)) 5 E (St.del 1 I) (λ_ _=>(bF E E E (fP 2 underlying28 kQ E dQ))) ?_;refine bJ 6 ?_;refine wV (i:=6) E E (cs:= #[D (-1),D 0]) (row':=eP n up (tv) OY (.slice (aD b1 0) 4 4) (PN (PN (PN Hh 0 (⟨-1,0⟩:Pl)) 1 (⟨-1,0⟩:Pl)) 2 (⟨-1,0⟩:Pl)) (λ_=>false) (iv) (pv) turn) (fs':=(_::(.Oy kn (eP n up (tv) OY (.slice (aD b1 0) 4 4) (PN (PN (PN Hh 0 (⟨-1,0⟩:Pl)) 1 (⟨-1,0⟩:Pl)) 2 (⟨-1,0⟩:Pl)) (λ_=>false) (iv) (pv) turn) 105)::fs)) 1 I (wn E) E E E E E E O5 E (dx E) (by rw[show Array.size (eP _ _ _ _ _ _ _ _ _ _)=20 from E];omega) (Gv (by decide) (p:=(⟨-1,0⟩:Pl))) E ?_;intro w33 uy
 refine aW 2 ?_;refine zN 3 ?_;refine vv (v:=D 3) jW ?_;refine zN 2 ?_;refine sN (pE (bH (aL (vv EX ?_))));refine zN 14 ?_;have J:=uy.drew;refine aU 7 J [1] ?_;refine aW 2 ?_;refine ak (v:=.agg #[D (-1),D 0]) 2 E (St.del 1 J) (λ_ arW=>(aA E E (fu (cs:=[D (-1),D 0]) (Uk.rg M arW)))) ?_;refine aW 2 ?_;refine ak (v:=pV kn (5+3*2)) 5 E (St.del 1 J) (λ_ _=>(bF E E E (fP 3 underlying28 kQ E dQ))) ?_;refine bJ 6 ?_;refine wV (i:=6) E E (cs:= #[D (-1),D 0]) (row':=eP n up (tv) OY (.slice (aD b1 0) 4 4) (PN (PN (PN (PN Hh 0 (⟨-1,0⟩:Pl)) 1 (⟨-1,0⟩:Pl)) 2 (⟨-1,0⟩:Pl)) 3 (⟨-1,0⟩:Pl)) (λ_=>false) (iv) (pv) turn) (fs':=(_::(.Oy kn (eP n up (tv) OY (.slice (aD b1 0) 4 4) (PN (PN (PN (PN Hh 0 (⟨-1,0⟩:Pl)) 1 (⟨-1,0⟩:Pl)) 2 (⟨-1,0⟩:Pl)) 3 (⟨-1,0⟩:Pl)) (λ_=>false) (iv) (pv) turn) 105)::fs)) 1 J (wn E) E E E E E E O5 E (dx E) (by rw[show Array.size (eP _ _ _ _ _ _ _ _ _ _)=20 from E];omega) (Gv (by decide) (p:=(⟨-1,0⟩:Pl))) E ?_;intro YN wO;refine aW 2 ?_;refine zN 3 ?_;refine vv (v:=D 4) jW ?_;refine zN 2 ?_;refine sN (pE (bH (aL (vv apl ?_))));refine zN 14 ?_;refine kZ (row':=eP n up (tv) OY (.slice (aD b1 0) 4 4) (PN (PN (PN (PN Hh 0 (⟨-1,0⟩:Pl)) 1 (⟨-1,0⟩:Pl)) 2 (⟨-1,0⟩:Pl)) 3 (⟨-1,0⟩:Pl)) (λ_=>false) (.slice none 0 0) (pv) turn) 1 wO kQ ?_;intro Un tC;refine zN 2 ?_;refine kZ (row':=eP n up (tv) OY (.slice (aD b1 0) 4 4) (PN (PN (PN (PN Hh 0 (⟨-1,0⟩:Pl)) 1 (⟨-1,0⟩:Pl)) 2 (⟨-1,0⟩:Pl)) 3 (⟨-1,0⟩:Pl)) (λ_=>false) (.slice none 0 0) (.nilFunc) turn) 1 tC kQ ?_;intro w46 BS;refine zQ ?_;refine dG (l':=[]) trivial (q9 ?_);have CU:=BS.fC [0,1];exact⟨E,b1,CU⟩
def afR{calls:Nat}{nv fv sv tv x:Value}{d:TW}{sh:Nat->Nat->Int×Int}:dU (nJ nv d fv sh sv tv calls) 0 [x]=nJ x d fv sh sv tv calls:=KD (fV E) E
def St.flip{B:Nat}{w0 w:World}{gs fs:List OJ}(S:St B w0 w (gs++fs)):St B w0 w (fs++gs):=S.perm AO
def aqd(a b c d e:Nat):Nat->Nat
 | 0=>a
 | 1=>b
 | 2=>c
 | 3=>d
 |_=>e
def RX{L:List OJ}:∀y∈vO,Eo L y:=λy h=>by
 have:y=UG:=by simpa[vO]using h
 subst this;exact⟨Ro.Ur,aG _⟩
def Yw{B:Nat}{w0 w:World}{fs:List OJ}(S:St B w0 w fs)(O:Uk B w0):
 Calls prog 24 #[] w (λe w'=> ∃K:CK,e=.returned (pV K.wb 0)/\Wd K B w0 w' fs lT []):=by
 refine jc 27 func24 ?_;refine cB (l':=[]) trivial (bH (aL (va ?_)));refine zN 4 ?_;refine dZ eQ (aaT _ (Uk.nw O S)) ?_;rintro _ w1 ⟨rfl,hb3⟩;refine⟨_,E,?_⟩;have S2:=S.on hb3;refine vv (v:=.agg (nJ (.slice none 0 0) (⟨nowhere,nowhere,nowhere,nowhere⟩:TW) (.slice none 0 0) (λ_ _=>(0,0)) (.slice none 0 0) (.slice none 0 0) 0)) iJ ?_;refine jT S2 ?_;intro b4 w5 S6;refine zN 10 ?_;refine Qx (pE (bH (aL (vv EX ?_))));refine zN 17 ?_;refine vv (v:=.agg (eP 0 true (.slice none 0 0) 0 (.slice none 0 0) (λ_=>(⟨0,0⟩:Pl)) (λ_=>false) (.slice none 0 0) (.nilFunc) 0)) iJ ?_;refine jT S6 ?_;intro b7 w8 S9;refine zN 6 ?_;refine dZ eQ (qC S9 O) ?_;rintro _ L6 ⟨rfl,Z,sI⟩;refine⟨_,E,?_⟩;refine zN 2 ?_;have VU:=sI.nil 98 1;refine zN 5 ?_;refine vv (aA E E (aV (St.cl 3 VU E CG))) ?_;refine zQ ?_;refine bsI VU ?_;intro b14 NP tO;refine eG (news:=[pV b7 0]) (xs':=[jh b7]) 1 tO (wn E) E E E E E E (St.nP (xs:=[pV b7 0]) 0 tO E E E) underlying90 Gb E dQ (dx E) lQ Y E ?_;intro A17 c18 J9 hc21 aPl tN;refine zN 2 ?_;refine kZ 4 tN kQ ?_ (hs:=by exact afR);intro Ma l7;refine zN 4 ?_;refine vv (v:=D 1) jW ?_;refine zN 2 ?_;refine sN (pE (bH (aL (vv EX ?_))));refine zN 17 ?_;refine vv (v:=.agg (eP 1 true (.slice none 0 0) 0 (.slice none 0 0) (λ_=>(⟨0,0⟩:Pl)) (λ_=>false) (.slice none 0 0) (.nilFunc) 0)) iJ ?_;refine jT l7 ?_;intro h Pt vJ;refine zN 6 ?_;refine dZ eQ (qC vJ O) ?_;rintro _ w29 ⟨rfl,aGD,Ed⟩;refine⟨_,E,?_⟩;refine zN 7 ?_;refine vv (aA E E (aV (St.cl 6 Ed E CG))) ?_;refine zQ ?_;refine bsI Ed ?_;intro b31 w32 yB;refine eG (news:=[pV h 0]) (xs':=[jh b7,jh h]) 4 yB (wn E) E E E E E E (St.nP (xs:=[pV h 0]) 0 yB E E E) underlying90 Gb E dQ (dx E) lQ Y E ?_;intro A34 c35 w36 hc38 aE9 Fz;refine zN 2 ?_;refine kZ 7 Fz kQ ?_ (hs:=by exact afR);intro w40 L9;refine zN 4 ?_;refine vv (v:=D 2) jW ?_;refine zN 2 ?_;refine sN (pE (bH (aL (vv EX ?_))));refine zN 17 ?_;refine vv (v:=.agg (eP 2 true (.slice none 0 0) 0 (.slice none 0 0) (λ_=>(⟨0,0⟩:Pl)) (λ_=>false) (.slice none 0 0) (.nilFunc) 0)) iJ ?_;refine jT L9 ?_;intro I w43 EK;refine zN 6 ?_;refine dZ eQ (qC EK O) ?_;rintro _ w46 ⟨rfl,aGE,BS⟩;refine⟨_,E,?_⟩;refine zN 7 ?_;refine vv (aA E E (aV (St.cl 9 BS E CG))) ?_;refine zQ ?_;refine bsI BS ?_;intro b48 w49 zS;refine eG (news:=[pV I 0]) (xs':=[jh b7,jh h,jh I]) 7 zS (wn E) E E E E E E (St.nP (xs:=[pV I 0]) 0 zS E E E) underlying90 Gb E dQ (dx E) lQ Y E ?_;intro A51 c52 w53 aPm aPn xw;refine zN 2 ?_;refine kZ 10 xw kQ ?_ (hs:=by exact afR);intro w57 FC;refine zN 4 ?_;refine vv (v:=D 3) jW ?_;refine zN 2 ?_;refine sN (pE (bH (aL (vv EX ?_))));refine zN 17 ?_;refine vv (v:=.agg (eP 3 true (.slice none 0 0) 0 (.slice none 0 0) (λ_=>(⟨0,0⟩:Pl)) (λ_=>false) (.slice none 0 0) (.nilFunc) 0)) iJ ?_;refine jT FC ?_;intro J w60 IE;refine zN 6 ?_;refine dZ eQ (qC IE O) ?_;rintro _ w63 ⟨rfl,aGF,S64⟩;refine⟨_,E,?_⟩;refine zN 7 ?_;refine vv (aA E E (aV (St.cl 12 S64 E CG))) ?_;refine zQ ?_;refine bsI S64 ?_;intro b65 YP wZ;refine eG (news:=[pV J 0]) (xs':=[jh b7,jh h,jh I,jh J]) 10 wZ (wn E) E E E E E E (St.nP (xs:=[pV J 0]) 0 wZ E E E) underlying90 Gb E dQ (dx E) lQ Y E ?_;intro A68 c69 w70 aPo aPp vS
 refine zN 2 ?_;refine kZ 13 vS kQ ?_ (hs:=by exact afR);intro w74 Jy;refine zN 4 ?_;refine vv (v:=D 4) jW ?_;refine zN 2 ?_;refine sN (pE (bH (aL (vv EX ?_))));refine zN 17 ?_;refine vv (v:=.agg (eP 4 true (.slice none 0 0) 0 (.slice none 0 0) (λ_=>(⟨0,0⟩:Pl)) (λ_=>false) (.slice none 0 0) (.nilFunc) 0)) iJ ?_;refine jT Jy ?_;intro M w77 Mf;refine zN 6 ?_;refine dZ eQ (qC Mf O) ?_;rintro _ w80 ⟨rfl,aGG,yw⟩;refine⟨_,E,?_⟩;refine zN 7 ?_;refine vv (aA E E (aV (St.cl 15 yw E CG))) ?_;refine zQ ?_;refine bsI yw ?_;intro b82 w83 IG;refine eG (news:=[pV M 0]) (xs':=[jh b7,jh h,jh I,jh J,jh M]) 13 IG (wn E) E E E E E E (St.nP (xs:=[pV M 0]) 0 IG E E E) underlying90 Gb E dQ (dx E) lQ Y E ?_;intro A85 c86 w87 aPq aPr Px;refine zN 2 ?_;refine kZ 16 Px kQ ?_ (hs:=by exact afR);intro w91 BQ;refine zN 4 ?_;refine vv (v:=D 5) jW ?_;refine zN 2 ?_;refine sN (pE (bH (aL (vv apl ?_))));refine zN 17 ?_;have Fw:St _ _ _ (_::_::_::_::_::_::_::_::_::_::_::_::_::_::_::_::_::fs):=BQ.bZ 13 E;have Ka:=Fw.bq [12,9,6,3,0];have NV:=Ka.nil 56 7;have IJ:=NV.nil 164 14;have II:=IJ.nil 119 23;have FB:=II.EH 119 23;have S99:=FB.EH 119 23;have yT:=S99.EH 119 23;have yV:=yT.EH 119 23;have wh:=yV.EH 119 23;have xX:=wh.fC [16];have Bu:=xX.fC [5];have vH:=Bu.fC [10];have OV:=vH.fC [10];have Hg:=OV.fC [7];have xV:=Hg.fC [12];have Lc:=xV.fC [12];have uz:=Lc.fC [9];have aer:=uz.fC [14];have Ej:=aer.fC [14];have xW:=Ej.fC [11];have G6:=xW.fC [16];have sS:=G6.fC [16];have Bt:=sS.fC [13];have CJ:=Bt.fC [18];have yU:=CJ.fC [18];have zV:=yU.fC [18];have xk:=zV.fC [18];have JK:=xk.fC [18];have E5:=JK.fC [19];refine⟨⟨b4,aqd b7 h I J M⟩,E,⟨λj=>⟨aqd Z aGD aGE aGF aGG j,none,0,vO,none,0,[],.nilFunc⟩,none,0,[],none,0,none,0,A85,c86,[.dR 1 A85 5 [jh b7,jh h,jh I,jh J,jh M]]⟩,?_,St.flip (gs:=[_,_,_,_,_,_,_,_,_,_,_,_,_,_,_,_,_,_,_,_]) (fs:=fs) E5⟩;exact⟨E,λx hx=>(by cases hx),λn hn=>⟨E,RX,Ro.Ur,E,λy hy=>(by cases hy),E⟩,Ro.dR (aF.2 E),λx hx=>(by cases hx)⟩
def bV(l:bO):Nat:=if l.kd=0 then 1 else 0
def vC:Option dh->Nat
 |some (.serve _ _ _ _ _)=>1
 |_=>0
def Cl.c0(m:Cl):Nat:=m.ws bV+(vC (m.aj 0).OO+(vC (m.aj 1).OO+(vC (m.aj 2).OO+(vC (m.aj 3).OO+vC (m.aj 4).OO))))
noncomputable def FF(m:Cl)(G:Nat->Gh):Nat->Wy:=λq=>Ap m q (G q)
noncomputable def Ct(m:Cl)(G:Nat->Gh)(n:Nat):Nat:=(m.aj n).data.length+m.ws (tJ (FF m G))+(fi (FF m G 0) n (qw (m.aj n) 0)+fi (FF m G 1) n (qw (m.aj n) 1))
structure Rmc (m:Cl)(G:Nat->Gh)(B c e:Nat):Prop where
 up:∀n,n<5->(m.aj n).up=true
 vd:Vd m
 qi:∀q,q<2->QI m q (G q)
 Ct:∀n,n<5->Ct m G n+c<=B
 cap:∀q,q<2->(G q).G.length+m.c0+e+(FF m G q).R<=300
def Rm(m:Cl)(G:Nat->Gh)(B:Nat):Prop:=Rmc m G B 0 0
section
variable {m w m':Cl}{n q B c e:Nat}{X X':Nd}{l:bO}{p:dh}{G G':Nat->Gh}{g g':Gh}{b b':bC}{rs us:List dN}{V:Nat->bC}{P:Nat->Option dh}{U:Nat->Bool}{Lt:bO->Prop}{pl:Pl}{sh:Nat->Int×Int}{sv:List l9}{d:Nat}{cO:Nd}
def agR{Q:Nat->Gh->Prop}(h:∀q,q<2-> ∃g,Q q g):∃G:Nat->Gh,∀q,q<2->Q q (G q):=by
 obtain⟨a,I⟩:=h 0 dQ;obtain⟨b,J⟩:=h 1 dQ;refine⟨λq=>if q=0 then a else b,λq M=>?_⟩;have:q=0\/q=1:=Y
 rcases this with rfl|rfl
 ·exact I
 exact J
def nu.trans{F F' J:Wy}(h:nu F F')(M:nu F' J):nu F J:=by
 rcases h with⟨a1,a2,a3,a4⟩|⟨a1,a2,a3,a4,a5⟩
 ·rcases M with⟨b1,b2,b3,b4⟩|⟨b1,b2,b3,b4,b5⟩
  ·exact .inl ⟨by omega,λk I=>(b2 k Y).trans (a2 k I),by omega,b4.trans a4⟩
  exact .inr ⟨by omega,λk I=>(b2 k Y).trans (a2 k I),by rw[<-a1,b3,a4],by omega,b5⟩
 rcases M with⟨b1,b2,b3,b4⟩|⟨b1,b2,b3,b4,b5⟩
 ·exact .inr ⟨by omega,λk I=>(b2 k Y).trans (a2 k I),by rw[b2 _ Y];exact a3,a4,by omega⟩
 omega
def Jc(x:bO)(h:x.kd=6):bV x=0:=ah Y
def vD{x:bO}(h:x.kd≠0):bV x=0:=ah h
def Y8{f:bO->Nat}:∀ {a:List bO},(∀x∈a,f x=0)->eB f a=0
 |[],_=>rfl
 |l::a,h=>by rw[eB,h l gJ,Y8 (a:=a) λx I=>h x (dM _ I)]
def qP{f:bO->Nat}{new:List bO}(hn:n<5)(h:∀j,j≠n->m'.aj j=m.aj j)(hi:(m'.aj n).Mv=(m.aj n).Mv)(I:m'.OM=m.OM++new)(J:∀x∈new,f x=0):m'.ws f<=m.ws f:=
 KE (d:=0) hn (λj M=>by rw[h j M]) (by rw[hi,I,vo,Y8 J];omega)
def Jd{d d':Nat}(hn:n<5)(h:∀j,j≠n->m'.aj j=m.aj j)(hw:m'.ws bV+d<=m.ws bV)(I:vC (m'.aj n).OO+d'<=vC (m.aj n).OO+d):m'.c0+d'<=m.c0:=by
 unfold Cl.c0
 rcases five hn with rfl|rfl|rfl|rfl|rfl
 ·rw[h 1 dQ,h 2 dQ,h 3 dQ,h 4 dQ];omega
 ·rw[h 0 dQ,h 2 dQ,h 3 dQ,h 4 dQ];omega
 ·rw[h 0 dQ,h 1 dQ,h 3 dQ,h 4 dQ];omega
 ·rw[h 0 dQ,h 1 dQ,h 2 dQ,h 4 dQ];omega
 rw[h 0 dQ,h 1 dQ,h 2 dQ,h 3 dQ];omega
def Nb{new:List bO}(hv:Vd m)(Z:∀j,j<5->Ct m G j+c<=B)(hn:n<5)(M:∀j,j≠n->m'.aj j=m.aj j)(hi:(m'.aj n).Mv=(m.aj n).Mv)(hf:m'.OM=m.OM++new)
  (h:∀q,q<2->nu (FF m G q) (FF m' G' q)) (h0:∀x∈new,tJ (FF m' G') x=0)
  (hd:(m'.aj n).data.length+(fi (FF m G 0) n (qw (m'.aj n) 0)+fi (FF m G 1) n (qw (m'.aj n) 1))<=(m.aj n).data.length+c+(fi (FF m G 0) n (qw (m.aj n) 0)+fi (FF m G 1) n (qw (m.aj n) 1))):∀j,j<5->Ct m' G' j<=B:=by
 have h1:m'.ws (tJ (FF m' G'))<=m.ws (tJ (FF m' G')):=qP hn M hi hf h0;have h2:m.ws (tJ (FF m' G'))<=m.ws (tJ (FF m G)):=Pk (λl I=>(h _ (hv.OM l I)).lw) λj J l I=>(h _ (hv.jk j J l I)).lw;intro j J;have hp:=Z j J;have f0:=(h 0 dQ).fi_ (n:=j) (b:=qw (m'.aj j) 0);have f1:=(h 1 dQ).fi_ (n:=j) (b:=qw (m'.aj j) 1);unfold Ct at hp⊢;by_cases O:j=n
 ·subst O;omega
 rw[M j O]at f0 f1⊢;omega
def xH(I:TU g V P U Lt pl sh sv)(hn:n<5)(J:(V n).F9=2\/(V n).F9=3){x:bO}(he:x.ep=(V n).ep+1)(h:x.tg=(V n).tg):calm ⟨g.m,g.own,if (V g.o).F9=1 then 0 else 1,(V g.o).tg⟩ x:=by
 by_cases e:n=g.o
 ·rw[e]at J he h;rw[I.vV]at he;exact .inr ⟨he,ah Y,h⟩
 rcases I.oM n hn e with⟨Z,_⟩|⟨k,M,k2,k3,k4,k5,k6,O⟩|⟨k,M,_⟩
 ·omega
 ·refine .inl ⟨by omega,by show x.ep<=(g.m:Int);omega,?_⟩
  show x.tg=((g.own x.ep.toNat:Nat):Int)
  rw[show x.ep.toNat=k+1 by omega,h,O]
 omega
def LG(hu:(m.aj n).up=true)(H:Hnd m n l m'):∃new,m'.OM=m.OM++new/\ ∀x∈new,x.kd≠0/\(x.kd=4->x.q=l.q/\(((m.aj n).bs l.q).F9=2\/((m.aj n).bs l.q).F9=3)/\x.ep=((m.aj n).bs l.q).ep+1/\x.tg=((m.aj n).bs l.q).tg):=by
 have one:∀ {x:bO} {Q:bO->Prop},Q x-> ∀y∈[x],Q y:=λh y M=>by rw[aF]at M;subst M;exact h
 cases H with
 |same=>exact⟨[],by simp,λx J=>by cases J⟩
 |done a h1 O=>
  unfold Cl.done
  split
  ·exact⟨_,E,one ⟨by show(1:Int)≠0;decide,λh=>av (show(1:Int)=4 from h) dQ⟩⟩
  exact⟨_,E,one ⟨by show(1:Int)≠0;decide,λh=>av (show(1:Int)=4 from h) dQ⟩⟩
 |TV h1=>exact⟨_,E,one ⟨by show(3:Int)≠0;decide,λh=>av (show(3:Int)=4 from h) dQ⟩⟩
 |part b h1 O h3 I h5 h6=>
  obtain⟨g1,g2,Z⟩:=oP (m:=m.aC n l.q b) (n:=n) (q:=l.q) (a:=l.at_);have e0:((m.aC n l.q b).aj n).bs l.q=b:=by rw[show(m.aC n l.q b).aj n=(m.aj n).aC l.q b from aY _];exact Jo _ _ _
  rw[e0]at Z;rw[Z];unfold lI
  split
  ·exact⟨[],by rw[bI];rfl,λx J=>by cases J⟩
  refine⟨_,E,one ⟨by show(4:Int)≠0;decide,λ_=>⟨E,?_,?_,?_⟩⟩⟩
  ·rcases I with⟨I,_⟩|⟨I,_⟩
   ·exact .inl I
   exact .inr I
  ·show b.ep+1=_
   rcases I with⟨_,I,_⟩|⟨_,I⟩<;>rw[I]
  show b.tg=_
  rcases I with⟨_,I,_⟩|⟨_,I⟩<;>rw[I]
 |OO p cO d h1 O h3 I h5=>exact⟨[],by rw[bI];rfl,λx J=>by cases J⟩
 |Qf h1=>exact⟨[],by rw[bI];rfl,λx J=>by cases J⟩
def Y9(hu:(m.aj n).up=true)(M:(m.aj n).OO=none)(H:Hnd m n l m'):
 (∀q,((m'.aj n).bs q).F9=((m.aj n).bs q).F9/\((m'.aj n).bs q).tg=((m.aj n).bs q).tg/\((m'.aj n).bs q).ep=((m.aj n).bs q).ep/\((m'.aj n).bs q).Jp=((m.aj n).bs q).Jp)/\
  (((m'.aj n).OO=none/\(m'.aj n).data=(m.aj n).data)\/(∃p,(m'.aj n).OO=some p/\p.q=l.q/\p.ok (m.aj n).bs/\(m'.aj n).bs=(m.aj n).bs/\Src ((m.aj n).bs l.q) l p/\(m'.aj n).data.length<=(m.aj n).data.length+46*(p.rs (m.aj n).bs).length)):=by
 have I:∀ {cO:Nd},cO=m.aj n->(∀q,(cO.bs q).F9=((m.aj n).bs q).F9/\(cO.bs q).tg=((m.aj n).bs q).tg/\(cO.bs q).ep=((m.aj n).bs q).ep/\(cO.bs q).Jp=((m.aj n).bs q).Jp)/\((cO.OO=none/\cO.data=(m.aj n).data)\/(∃p,cO.OO=some p/\p.q=l.q/\p.ok (m.aj n).bs/\cO.bs=(m.aj n).bs/\Src ((m.aj n).bs l.q) l p/\cO.data.length<=(m.aj n).data.length+46*(p.rs (m.aj n).bs).length)):=λh=>by
  subst h;exact⟨λq=>⟨E,E,E,E⟩,.inl ⟨M,E⟩⟩
 cases H with
 |same=>exact I E
 |done a h1 O=>exact I (by rw[(uI (m:=m)).2.1])
 |TV h1=>exact I E
 |part b h1 O Z J h5 h6=>
  obtain⟨g1,g2,g3⟩:=oP (m:=m.aC n l.q b) (n:=n) (q:=l.q) (a:=l.at_);have e0:((m.aC n l.q b).part n l.q l.at_).aj n=(m.aj n).aC l.q b:=by rw[g2];exact aY _
  rw[e0];refine⟨λq=>?_,.inl ⟨M,E⟩⟩;by_cases hq:q=l.q
  ·rw[hq,show((m.aj n).aC l.q b).bs l.q=b from Jo _ _ _]
   rcases J with⟨_,J,_⟩|⟨_,J⟩<;>rw[J]<;>exact⟨E,E,E,E⟩
  rw[show((m.aj n).aC l.q b).bs q=(m.aj n).bs q from Ox hq];exact⟨E,E,E,E⟩
 |OO p cO d h1 O Z J h5=>
  have hY:cO.bs=(m.aj n).bs:=by rcases h1 with h1|⟨_,h1⟩<;>rw[h1]<;>rfl
  rw[aY];dsimp only;rw[hY];refine⟨λq=>⟨E,E,E,E⟩,.inr ⟨p,E,O,Z,E,h5,?_⟩⟩;obtain⟨w1,_,_⟩:=vk J;have:=H7 (p.rs (m.aj n).bs);rw[w1,aZ];omega
 |Qf h1=>
  rw[aY];exact⟨λq=>⟨E,E,E,E⟩,.inl ⟨M,E⟩⟩
def Je(h:sD g g')(I:(vw m' q g.o).F9=(vw m q g.o).F9)(J:(vw m' q g.o).tg=(vw m q g.o).tg):Ap m' q g'=Ap m q g:=by
 unfold Ap;rw[h.m,h.own,h.o,I,J]
def avi(h:m'.aj n=m.aj n):vw m' q n=vw m q n:=by unfold vw;rw[h]
def RY(R:Rmc m G B (tJ (FF m G) l) (bV l))(hB:B+46<=100000)(hn:n<5)(hU:pG (m.aj n) rs [])(hp:(m.aj n).OO=none)(hL:∀q,q<2->l.q=q->ER (G q) (vw m q) (m.off.at q) l)(Bd:l.tg=n)(hl3:l.Jp.length<=3)(hk:l.kd=0->bK l.op=0/\l.op.kind≠4)(M:l.q<2)
  (mP:CF m m' n) (H:Hnd m n l m'):∃G',Rm m' G' B/\ ∀q,q<2->FF m' G' q=FF m G q:=by
 have hu:=R.up n hn;have hdat:(m.aj n).data.length+46<=100000:=by
  have:=R.Ct n hn;unfold Ct at this;omega
 have hG:∀q,q<2->(G q).G.length<=300:=λq O=>by have:=R.cap q O;omega
 obtain⟨G',hG'⟩:=agR (Q:=λq g'=>QI m' q g'/\sD (G q) g') λq O=>by
  obtain⟨g',h1,Z,_⟩:=acH (R.qi q O) hn hu hU hp (hL q O) Bd hk Y hdat (by have:=hG q O;omega) H;exact⟨g',h1,Z⟩
 have hu':(m'.aj n).up=true:=mP.up.trans hu;obtain⟨hbs,V5⟩:=Y9 hu hp H;have hVs:∀q j,(vw m' q j).F9=(vw m q j).F9/\(vw m' q j).tg=(vw m q j).tg:=λq j=>by
  by_cases e:j=n
  ·subst e;rw[iC hu,iC hu'];exact⟨(hbs q).1,(hbs q).2.1⟩
  rw[avi (mP.oM j e)];exact⟨E,E⟩
 have hFe:∀q,q<2->FF m' G' q=FF m G q:=λq O=>Je (hG' q O).2 (hVs q _).1 (hVs q _).2;obtain⟨new,hf,hnew⟩:=LG hu H;have RZ:∀x∈new,tJ (FF m' G') x=0:=λx hx=>by
  obtain⟨h1,Z⟩:=hnew x hx;refine agP h1 λh4=>?_;obtain⟨h5,h6,h7,h8⟩:=Z h4;rw[h5,hFe _ M];have hV:=iC (q:=l.q) hu;exact xH (R.qi _ M) hn (by rw[hV];exact h6) (by rw[hV];exact h7) (by rw[hV];exact h8)
 refine⟨G',⟨λj hj=>?_,ah4 R.vd hn hu hp M H,λq O=>(hG' q O).1,?_,λq O=>?_⟩,hFe⟩
 ·by_cases e:j=n
  ·rw[e];exact hu'
  rw[mP.oM j e];exact R.up j hj
 ·refine Nb (c:=tJ (FF m G) l) R.vd R.Ct hn mP.oM mP.jk hf (λq O=>by rw[hFe q O];exact .refl _) RZ ?_;have J:∀q,((m'.aj n).OO=none\/ ∃p,(m'.aj n).OO=some p/\p.q≠q)->fi (FF m G q) n (qw (m'.aj n) q)=fi (FF m G q) n (qw (m.aj n) q):=λq h=>by
   rw[jV hp];have e:qw (m'.aj n) q=(m'.aj n).bs q:=by
    rcases h with h|⟨p,h,Z⟩
    ·exact jV h
    exact Aq h Z
   rw[e];exact aol (hbs q).1 (hbs q).2.2.1 (hbs q).2.2.2
  rcases V5 with⟨h1,Z⟩|⟨p,h1,Z,h3,h4,h5,h6⟩
  ·rw[J 0 (.inl h1),J 1 (.inl h1),Z];omega
  have hV:=iC (q:=l.q) hu;have hf:=(jL hU.tape hU.mG h3 (by rw[Z];omega)).2;have afD:=Y4 (R.qi _ M) hn hV E (hL _ M E) Bd Z E h3 h5 hf;have hpp:=ajR (FF:=FF m G) (R.qi _ M) hn hV Z h3 h5 afD Bd hl3 (hG _ M) E E;have e1:qw (m'.aj n) l.q=p.b (m.aj n).bs:=by rw[q8 h1 Z,h4]
  have e2:qw (m.aj n) l.q=(m.aj n).bs l.q:=jV hp;rw[<-e1,<-e2]at hpp;have h01:l.q=0\/l.q=1:=Y
  rcases h01 with e|e
  ·rw[e]at hpp;have:=J 1 (.inr ⟨p,h1,by rw[Z,e];decide⟩);omega
  rw[e]at hpp;have:=J 0 (.inr ⟨p,h1,by rw[Z,e];decide⟩);omega
 have hc:=R.cap q O;rw[hFe q O,(hG' q O).2.G];have hw:m'.ws bV+0<=m.ws bV:=qP hn mP.oM mP.jk hf λx hx=>vD (hnew x hx).1;have hs:vC (m'.aj n).OO<=bV l:=by
  rcases V5 with⟨h1,_⟩|⟨p,h1,Z,h3,h4,h5,h6⟩
  ·rw[h1];exact aG _
  rw[h1]
  cases p with
  |serve k Jp op num a=>rw[show bV l=1 from au h5.1];exact aB
  |_=>exact aG _
 have h0:vC (m.aj n).OO=0:=by rw[hp];rfl
 have:m'.c0<=m.c0+bV l:=by
  have I:=mP.oM;unfold Cl.c0
  rcases five hn with rfl|rfl|rfl|rfl|rfl
  ·rw[I 1 dQ,I 2 dQ,I 3 dQ,I 4 dQ];omega
  ·rw[I 0 dQ,I 2 dQ,I 3 dQ,I 4 dQ];omega
  ·rw[I 0 dQ,I 1 dQ,I 3 dQ,I 4 dQ];omega
  ·rw[I 0 dQ,I 1 dQ,I 2 dQ,I 4 dQ];omega
  rw[I 0 dQ,I 1 dQ,I 2 dQ,I 3 dQ];omega
 omega
def TU.top(I:TU g V P U Lt pl sh sv)(hn:n<5)(J:(V n).F9=1\/(V n).F9=2\/(V n).F9=3)(he:(g.m:Int)<=(V n).ep):n=g.o:=by
 by_cases e:n=g.o
 ·exact e
 rcases I.oM n hn e with⟨M,_⟩|⟨k,h,O,Z,k4,_⟩|⟨k,h,_⟩
 ·omega
 ·omega
 omega
def zC(I:QI m q g)(I':QI m' q g')(N:rE g g')(hn:n<5)(hV:vw m' q=PN (vw m q) n b')
  (h1:n=g.o->b'.ep=(vw m q n).ep/\b'.tg=(vw m q n).tg/\(b'.F9=1↔(vw m q n).F9=1)/\b'.Jp.length<=(vw m q n).Jp.length+d)
  (h2:n≠g.o->b'.F9=0\/b'.F9=4\/(b'.F9=3/\b'.ep<g.m)\/(b'.F9=1/\b'.ep=(g.m:Int)+1/\(vw m q g.o).F9=3/\(vw m q g.o).tg=n/\b'.Jp.length=g.G.length+1)):
  nu (Ap m q g) (Ap m' q g')/\g'.G.length+(Ap m' q g').R<=g.G.length+(Ap m q g).R+d:=by
 have o5:=I'.o5;have J:=I'.vV;have M:=I'.yN;have O:=I'.ES;have hm:=N.m;have keep:g'.o≠n->g'.o=g.o:=λe=>by
  rw[hV,Ox e]at J O;exact I.top o5 O Y
 have Z:g'.o=g.o->(vw m' q g.o).ep=g.m->g'.m=g.m:=λe h=>by
  rw[e]at J;have:=J.symm.trans h;omega
 by_cases c:n=g.o
 ·obtain⟨a1,a2,a3,a4⟩:=h1 c;subst c;have eV:vw m' q g.o=b':=by rw[hV,Jo]
  have eo:g'.o=g.o:=by
   by_cases e:g'.o=g.o
   ·exact e
   exact keep e
  have em:=Z eo (by rw[eV,a1];exact I.vV);have hG:g'.G.length=b'.Jp.length:=by rw[<-M,eo,eV]
  have hG0:g.G.length=(vw m q g.o).Jp.length:=by rw[I.yN]
  have hR:(Ap m' q g').R=(Ap m q g).R:=by
   unfold Ap;dsimp only;rw[eo,eV];by_cases c1:(vw m q g.o).F9=1
   ·rw[au c1,au (a3.2 c1)]
   rw[ah c1,ah (λh=>c1 (a3.1 h))]
  refine⟨.inl ⟨em,N.own,hR,?_⟩,by omega⟩
  show(vw m' q g'.o).tg=(vw m q g.o).tg
  rw[eo,eV,a2]
 have eVo:vw m' q g.o=vw m q g.o:=by rw[hV,Ox (λe=>c e.symm)]
 by_cases e:g'.o=n
 ·rw[e]at J M O;rw[hV,Jo]at J M O
  rcases h2 c with h|h|⟨_,h⟩|⟨k1,k2,k3,k4,k5⟩
  ·omega
  ·omega
  ·omega
  have em:g'.m=g.m+1:=Y;have hR:(Ap m q g).R=1:=ah Y;have hR':(Ap m' q g').R=0:=au (by rw[e,hV,Jo];exact k1);have hG:g'.G.length=g.G.length+1:=by rw[<-M,k5]
  refine⟨.inr ⟨em,N.own,?_,hR,hR'⟩,by omega⟩
  show((g'.own (g.m+1):Nat):Int)=(vw m q g.o).tg
  rw[k4,<-em];exact bP Int.ofNat e
 have eo:=keep e;have em:=Z eo (by rw[eVo];exact I.vV);have hR:(Ap m' q g').R=(Ap m q g).R:=by unfold Ap;dsimp only;rw[eo,eVo]
 have hG:g'.G.length=g.G.length:=by rw[<-M,eo,eVo,I.yN]
 refine⟨.inl ⟨em,N.own,hR,?_⟩,by omega⟩
 show(vw m' q g'.o).tg=(vw m q g.o).tg
 rw[eo,eVo]
def abt(I:QI m q g)(I':QI m' q g')(N:rE g g')(hn:n<5)(hu:(m.aj n).up=true)(hp:(m.aj n).OO=some p)(M:vw m' q=PN (vw m q) n (qw (m.aj n) q)):
 nu (Ap m q g) (Ap m' q g')/\g'.G.length+(Ap m' q g').R<=g.G.length+(Ap m q g).R+vC (m.aj n).OO:=by
 have O:=iC (q:=q) hu;by_cases hq:p.q=q
 ·have hpv:Cc m q n=some p:=by unfold Cc;rw[hp];exact Pj hq
  obtain⟨_,Z⟩:=I.nQ n hn p hpv;rw[q8 hp hq]at M;rw[hp]
  cases p with
  |serve k Jp op num a=>
   have e:k=q:=hq;subst e;obtain⟨J,k2,k3,k4,k5⟩:=Z;refine zC I I' N hn M (λ_=>?_) λh=>av J h;rw[O];refine⟨E,E,Iff.rfl,?_⟩
   show Jp.length<=_+1
   rw[k3,aZ,<-O,J,I.yN];exact aB
  |P8 k x=>
   obtain⟨j,j1,j2,j3,j4,j5⟩:=Z;exact zC I I' N hn M (λh=>av h (I.rW j4)) λ_=>.inr (.inl (by show x.F9=4;rw[j1]))
  |T9 k x last=>
   obtain⟨J,k2,k3⟩:=Z;refine zC I I' N hn M (λh=>av h (I.rW (.inr J))) λ_=>?_
   cases last with
   |true=>
    obtain⟨a1,a2,a3,a4,a5⟩:=k3 E;refine .inr (.inr (.inr ⟨?_,?_,a2,a3,?_⟩))
    ·show x.F9=1;rw[a4]
    ·show x.ep=_;rw[a4]
    show x.Jp.length=_;rw[a4];show(g.G++[bg]).length=_;simp
   |false=>
    obtain⟨j,a1,_⟩:=k2 E;exact .inr (.inl (by show x.F9=4;rw[a1];exact J))
  |gy k x a=>
   obtain⟨ho,j1,j2⟩:=Z;refine zC I I' N hn M (λ_=>?_) λh=>av ho h
   show x.ep=_/\x.tg=_/\(x.F9=1↔_)/\x.Jp.length<=_
   rw[j2];exact⟨E,E,by show(3:Int)=1↔_;omega,aB⟩
  |P5 k x=>
   obtain⟨j1,j2,j3⟩:=Z;exact zC I I' N hn M (λh=>by have:=I.vV;rw[<-h]at this;omega) λ_=>.inl (by show x.F9=0;rw[j2])
 rw[Aq hp hq,<-O]at M;have h:=zC (d:=0) I I' N hn M (λ_=>⟨E,E,Iff.rfl,aB⟩) λh=>by
  rcases I.oM n hn h with⟨h5,_⟩|⟨k,J,k2,k3,k4,_⟩|⟨k,J,_⟩
  ·exact .inl h5
  ·exact .inr (.inr (.inl ⟨J,by omega⟩))
  exact .inr (.inl J)
 exact⟨h.1,by have:=h.2;omega⟩
def TD(J:(m.aj n).up=true)(I:(m.aj n).OO=some p)(M:p.ok (m.aj n).bs):∃new,(m.step n).OM=m.OM++new/\ ∀x∈new,x.kd≠0/\(x.kd=4->x.q=p.q/\(qw (m.aj n) p.q).F9=3/\x.ep=(qw (m.aj n) p.q).ep+1/\x.tg=(qw (m.aj n) p.q).tg):=by
 have one:∀ {x:bO} {Q:bO->Prop},Q x-> ∀y∈[x],Q y:=λh y Z=>by rw[aF]at Z;subst Z;exact h
 rw[q8 I E]
 cases p with
 |serve k Jp op num a=>
  rw[jS E J I E M.1];exact⟨_,E,one ⟨by show(1:Int)≠0;decide,λh=>av (show(1:Int)=4 from h) dQ⟩⟩
 |P8 k b=>
  rw[ng E J I];exact⟨_,E,one ⟨by show(3:Int)≠0;decide,λh=>av (show(3:Int)=4 from h) dQ⟩⟩
 |T9 k b last=>
  cases last with
  |true=>
   rw[jP E J I];exact⟨[],by rw[bI];rfl,λx O=>by cases O⟩
  |false=>
   rw[qZ E J I];exact⟨_,E,one ⟨by show(3:Int)≠0;decide,λh=>av (show(3:Int)=4 from h) dQ⟩⟩
 |gy k b at_=>
  rw[oO E J I];obtain⟨h1,h2⟩:=M;dsimp only[dh.q,dh.b];unfold lI
  split
  ·exact⟨[],by rw[bI],λx O=>by cases O⟩
  exact⟨_,E,one ⟨by show(4:Int)≠0;decide,λ_=>⟨E,by rw[h2],E,E⟩⟩⟩
 |P5 k b=>
  rw[lK E J I];exact⟨[],by rw[bI];rfl,λx O=>by cases O⟩
def acX{T S eZ K:Nat}(R:Rm m G B)(hb:dW m T S eZ K)(hn:n<5)(O:(m.aj n).OO=some p):∃G',Rm (m.step n) G' B/\ ∀q,q<2->nu (FF m G q) (FF (m.step n) G' q):=by
 have hu:=R.up n hn;obtain⟨rs,us,hU⟩:=(hb.jH n hn).uH hu;obtain⟨h1,h2,h3⟩:=hU.FI p O;obtain⟨_,hf⟩:=jL hU.tape hU.mG h2 h3;obtain⟨cO,y1,y2,y3,y4,y5,y6,y7,y8,y9,_⟩:=Cr E hu O h3 hf h2;obtain⟨G',M⟩:=agR (Q:=λq g'=>QI (m.step n) q g'/\rE (G q) g') λq J=>by
  obtain⟨g',k1,k2,_⟩:=WI (R.qi q J) hn E hu O h2;exact⟨g',k1,k2⟩
 have eY:(m.step n).aj n=cO:=by rw[y1,Jo]
 have hvY:∀q,cO.bs q=qw (m.aj n) q:=λq=>by
  rw[y2];by_cases e:q=p.q
  ·subst e;rw[Jo,q8 O E]
  rw[Ox e,Aq O (λh=>e h.symm)]
 have hV:∀q,vw (m.step n) q=PN (vw m q) n (qw (m.aj n) q):=λq=>by rw[wR y1,fZ y6,hvY]
 have hgh:∀q,q<2->nu (FF m G q) (FF (m.step n) G' q)/\_:=λq J=>abt (R.qi q J) (M q J).1 (M q J).2 hn hu O (hV q);have hF:=λq J=>(hgh q J).1;obtain⟨new,hfl,Z⟩:=TD hu O h2;have hpq:=R.vd.nQ n hn p O;have I:∀j,j≠n->(m.step n).aj j=m.aj j:=λj hj=>by rw[y1,Ox hj]
 have ayj:((m.step n).aj n).Mv=(m.aj n).Mv:=by rw[eY,y7]
 refine⟨G',⟨λj hj=>?_,acP R.vd hb hn,λq J=>(M q J).1,?_,λq J=>?_⟩,hF⟩
 ·by_cases e:j=n
  ·rw[e,eY];exact y6
  rw[I j e];exact R.up j hj
 ·refine Nb (c:=0) R.vd R.Ct hn I ayj hfl hF (λx hx=>?_) ?_
  ·obtain⟨k1,k2⟩:=Z x hx;refine agP k1 λh4=>?_;obtain⟨k5,k6,k7,k8⟩:=k2 h4;rw[k5];have hVn:vw (m.step n) p.q n=qw (m.aj n) p.q:=by rw[hV,Jo]
   exact xH (M _ hpq).1 hn (by rw[hVn];exact .inr k6) (by rw[hVn];exact k7) (by rw[hVn];exact k8)
  have e0:∀q,qw ((m.step n).aj n) q=qw (m.aj n) q:=λq=>by rw[eY,jV y5,hvY]
  rw[e0,e0,eY,y3];exact aB
 have hc:=R.cap q J;have h4:=(hgh q J).2;have hw:(m.step n).ws bV+0<=m.ws bV:=qP hn I ayj hfl λx hx=>vD (Z x hx).1;have:=Jd (d:=0) (d':=vC (m.aj n).OO) hn I hw (by rw[eY,y5];show 0+_<=_;omega)
 show(G' q).G.length+(m.step n).c0+0+(Ap (m.step n) q (G' q)).R<=300
 have hc':(G q).G.length+m.c0+0+(Ap m q (G q)).R<=300:=hc;omega
def acY(R:Rm m G B)(hn:n<5):∃G',Rm (m.lu n) G' B/\ ∀q,q<2->FF (m.lu n) G' q=FF m G q:=by
 have hu:=R.up n hn;have Z:(m.lu n).aj=PN m.aj n {m.aj n with turn:=(m.aj n).turn+1}:=rfl;have eY:(m.lu n).aj n={m.aj n with turn:=(m.aj n).turn+1}:=by rw[Z,Jo]
 have J:∀j,j≠n->(m.lu n).aj j=m.aj j:=λj hj=>by rw[Z,Ox hj]
 have hl:=λq M=>WH (R.qi q M) hn hu;have hF:∀q,q<2->FF (m.lu n) G q=FF m G q:=λq M=>Je (.refl _) (by rw[(hl q M).2]) (by rw[(hl q M).2]);have O:∀x∈ig n ((m.aj n).turn % 4) ((m.aj n).bs ((m.aj n).turn % 4)) ((m.aj n).PZ ((m.aj n).turn % 4)),x.kd≠0/\x.kd≠4:=by
  intro x I;unfold ig at I;have two:(2:Int)≠0/\(2:Int)≠4:=by decide
  have five:(5:Int)≠0/\(5:Int)≠4:=by decide
  rcases aP.1 I with I|I
  ·rcases aP.1 I with I|I
   ·split at I
    ·rw[aF]at I;subst I;exact two
    simp at I
   split at I
   ·rw[aF]at I;subst I;exact five
   simp at I
  split at I
  ·rw[aF]at I;subst I;exact five
  simp at I
 refine⟨G,⟨λj hj=>?_,Tz R.vd hn hu,λq M=>(hl q M).1,?_,λq M=>?_⟩,hF⟩
 ·by_cases e:j=n
  ·rw[e,eY];exact hu
  rw[J j e];exact R.up j hj
 ·refine Nb (c:=0) (G:=G) (G':=G) R.vd R.Ct hn J (by rw[eY]) E (λq M=>by rw[hF q M];exact .refl _) (λx I=>agP (O x I).1 λh=>av h (O x I).2) ?_;rw[eY];exact aB
 have hc:=R.cap q M;have hw:(m.lu n).ws bV+0<=m.ws bV:=qP hn J (by rw[eY]) E λx I=>vD (O x I).1;have:=Jd (d:=0) (d':=0) hn J hw (by rw[eY];exact aB);rw[hF q M];omega
def aoo{T S eZ K:Nat}(R:Rm m G B)(hB:B+46<=100000)(hb:dW m T S eZ K)(hn:n<5):∃G',Rm (m.step n) G' B/\ ∀q,q<2->nu (FF m G q) (FF (m.step n) G' q):=by
 have hu:=R.up n hn;obtain⟨rs,us,hU⟩:=(hb.jH n hn).uH hu
 cases hp:(m.aj n).OO with
 |some p=>exact acX R hb hn hp
 |none=>
  have key:=og (n:=n) (λw=>Kt m n rs w/\ ∃G1,Rm w G1 B/\ ∀q,q<2->FF w G1 q=FF m G q) (λw l r ⟨H,G1,h,F1⟩ hp1 M=>by
   obtain⟨h1,h2,h3,h4⟩:=oh (λl hl=>lM (hb.jk n hn l hl)) H hp1 M;have Z:l∈(w.aj n).Mv:=by rw[M];simp
   obtain⟨b1,b2⟩:=hb.jk n hn l (H.jk l Z);have hlq:=h.vd.jk n hn l Z;have O:(w.put n ((w.aj n).box r)).aj=PN w.aj n ((w.aj n).box r):=rfl;have e0:(w.put n ((w.aj n).box r)).aj n=(w.aj n).box r:=aY _;have I:∀j,j≠n->(w.put n ((w.aj n).box r)).aj j=w.aj j:=λj hj=>Ox hj;have hvw:∀q,vw (w.put n ((w.aj n).box r)) q=vw w q:=λq=>oU O E;have hF1:FF (w.put n ((w.aj n).box r)) G1=FF w G1:=by funext q;exact Je (.refl _) (by rw[hvw]) (by rw[hvw])
   have hws:∀f:bO->Nat,(w.put n ((w.aj n).box r)).ws f+f l<=w.ws f:=λf=>KE hn (λj hj=>by rw[I j hj]) (by
    rw[e0,M]
    show eB f w.OM+eB f r+f l<=eB f w.OM+(f l+eB f r)
    omega)
   have R2:Rmc (w.put n ((w.aj n).box r)) G1 B (tJ (FF (w.put n ((w.aj n).box r)) G1) l) (bV l):=by
    refine⟨λj hj=>?_,h.vd.at_ (n:=n) (X:=(w.aj n).box r) E (λq h7 h8=>h.vd.rol n hn q h7 h8) (h.vd.nQ n hn) (λx hx=>h.vd.jk n hn x (by rw[M];exact dM _ hx)) (λx hx=>.inl hx),λq J=>?_,λj hj=>?_,λq J=>?_⟩
    ·by_cases e:j=n
     ·rw[e,e0];exact h.up n hn
     rw[I j e];exact h.up j hj
    ·exact(h.qi q J).far hn O E E E (λx hx=>by rw[M];exact dM _ hx) (λx hx=>.inl hx) E E E
    ·have h5:=h.Ct j hj;have h6:=hws (tJ (FF w G1));unfold Ct at h5⊢;rw[hF1];by_cases e:j=n
     ·rw[e]at h5⊢;rw[e0];have e1:∀q,qw ((w.aj n).box r) q=qw (w.aj n) q:=λ_=>E;have e2:((w.aj n).box r).data=(w.aj n).data:=rfl;rw[e1,e1,e2];omega
     rw[I j e];omega
    have h5:=h.cap q J;have h6:=Jd (d:=bV l) (d':=bV l) hn I (hws bV) (by rw[e0];show vC (w.aj n).OO+_<=_;omega);rw[hF1];omega
   obtain⟨G2,R3,F2⟩:=RY R2 hB hn h2 (by rw[e0];exact hp1) (λq J VA=>by rw[hvw];exact(h.qi q J).nD l ⟨VA,.inr ⟨n,hn,Z⟩⟩) b2 b1.2.1 b1.2.2.2 hlq (jG h1.1) h3;exact⟨h1.1,h4,G2,R3,λq J=>by rw[F2 q J,hF1];exact F1 q J⟩) _ m E ⟨zx hu ⟨_,hU⟩,G,R,λ_ _=>E⟩
  obtain⟨H1,G1,h,F1⟩:=key;rw[jy hu hp]
  split
  ·obtain⟨G2,R2,F2⟩:=acY h hn;exact⟨G2,R2,λq J=>by rw[F2 q J,F1 q J];exact .refl _⟩
  exact⟨G1,h,λq J=>by rw[F1 q J];exact .refl _⟩
def AY(m:Cl)(l:bO)(j:Nat):∃h,(m.P6 l).aj j={m.aj j with Mv:=h}:=by
 unfold Cl.P6
 split
 ·exact⟨_,E⟩
 split
 ·split<;>exact⟨_,E⟩
 split
 ·by_cases e:j=l.tg.toNat
  ·subst e;exact⟨_,aY _⟩
  exact⟨(m.aj j).Mv,Ox e⟩
 exact⟨_,E⟩
def WV:∀(ls:List bO) (m:Cl) (j:Nat),∃h,(ls.foldl Cl.P6 m).aj j={m.aj j with Mv:=h}
 |[],m,j=>⟨_,E⟩
 |l::ls,m,j=>by
  obtain⟨I,J⟩:=WV ls (m.P6 l) j;obtain⟨O,M⟩:=AY m l j;refine⟨I,?_⟩;rw[qX,J,M]
def rX(m:Cl)(j:Nat):∃h,m.all.aj j={m.aj j with Mv:=h}:=WV m.OM {m with OM:=[]} j
def R4{T S eZ K:Nat}(R:Rm m G B)(J:dW m T S eZ K):Rm m.all G B/\ ∀q,q<2->FF m.all G q=FF m G q:=by
 have O:=λq (I:q<2)=>Lu (R.qi q I) J.nD Y;have M:∀q,q<2->FF m.all G q=FF m G q:=λq I=>Je (.refl _) (by rw[(O q I).2]) (by rw[(O q I).2]);have h:∀j,(m.all.aj j).OO=(m.aj j).OO:=λj=>by obtain⟨Z,e⟩:=rX m j;rw[e]
 refine⟨⟨λj hj=>?_,RO R.vd J.nD,λq I=>(O q I).1,λj hj=>?_,λq I=>?_⟩,M⟩
 ·obtain⟨Z,e⟩:=rX m j;rw[e];exact R.up j hj
 ·have h1:=R.Ct j hj;have h2:m.all.ws (tJ (FF m.all G))<=m.all.ws (tJ (FF m G)):=Pk (λx hx=>(by rw[M _ ((RO R.vd J.nD).OM x hx)];exact .refl _:nu (FF m G x.q) (FF m.all G x.q)).lw) λi hi x hx=>(by rw[M _ ((RO R.vd J.nD).jk i hi x hx)];exact .refl _:nu (FF m G x.q) (FF m.all G x.q)).lw;have h3:m.all.ws (tJ (FF m G))<=m.ws (tJ (FF m G)):=ET aAj J.nD;obtain⟨Z,e⟩:=rX m j;unfold Ct at h1⊢;rw[M 0 dQ,M 1 dQ,e];have e1:∀q,qw {m.aj j with Mv:=Z} q=qw (m.aj j) q:=λ_=>E;rw[e1,e1];dsimp only;omega
 have h1:=R.cap q I;have h3:m.all.ws bV<=m.ws bV:=ET Jc J.nD;have:m.all.c0<=m.c0:=by
  unfold Cl.c0;rw[h,h,h,h,h];omega
 rw[M q I];omega
end
def Ez{n q k p i b he hn:Int}(h1:0<=n/\n<3)(Z:0<=q/\q<2)(h:(k=1/\0<=p/\p<2/\0<=i/\i<24/\0<=b/\b<1000/\he=0/\hn=0)\/(k=2/\p=0/\i=0/\b=0/\he=0/\hn=0)\/(k=3/\p=0/\i=0/\b=0/\0<=he/\he<3/\0<=hn/\hn<6)):dn ⟨2,n,q,0,0,k,p,i,b,he,hn⟩=0:=by
 rcases h with⟨rfl,I,J,M,O,h7,h8,rfl,rfl⟩|⟨rfl,rfl,rfl,rfl,rfl,rfl⟩|⟨rfl,rfl,rfl,rfl,I,J,M,O⟩
 all_goals
  simp[dn,dD,QC,Ac.get,Ac.TQ,fin,BN,UW];omega
def aop{k a b c:Int}(n q:Int)(h1:0<=n/\n<3)(h:0<=q/\q<2):dn ⟨2,n,q,0,0,if (qo k a b c).kind=4 then 2 else(qo k a b c).kind,(qo k a b c).OU,(qo k a b c).id,(qo k a b c).body,(qo k a b c).OZ,(qo k a b c).PX⟩=0:=by
 have p1:=pX (n:=a) (m:=2) dQ;have p2:=pX (n:=b) (m:=24) dQ;have p3:=pX (n:=c) (m:=1000) dQ;have I:=pX (n:=a) (m:=3) dQ;have J:=pX (n:=b) (m:=6) dQ;unfold qo
 split
 ·exact Ez h1 h (.inl ⟨E,p1.1,p1.2,p2.1,p2.2,p3.1,p3.2,E,E⟩)
 split
 ·exact Ez h1 h (.inr (.inl ⟨E,E,E,E,E,E⟩))
 split
 ·exact Ez h1 h (.inr (.inr ⟨E,E,E,E,I.1,I.2,J.1,J.2⟩))
 exact Ez h1 h (.inr (.inl ⟨E,E,E,E,E,E⟩))
def Za(g:Gr)(cr:Bool):dn (iG g cr)=0/\(iG g cr).kd≠1:=by
 have p1:=pX (n:=g.a) (m:=3) dQ;have p2:=pX (n:=g.b) (m:=2) dQ;have p3:=pX (n:=g.c) (m:=20) dQ;have h:=pX (n:=g.c) (m:=120) dQ;unfold iG
 split
 ·exact⟨aop _ _ p1 p2,by unfold Pg;dsimp only;omega⟩
 repeat' split
 all_goals
  refine⟨?_,by dsimp only;omega⟩;simp[dn,dD,QC,Ac.get,Ac.TQ,fin,BN,UW]
  try omega
def aj0:∀a∈mks,dn a=0:=by
 intro a h;simp only[mks,mem_cons,not_mem_nil,or_false]at h
 rcases h with rfl|rfl<;>rfl
def Yx(gs:List Gr)(m:Nat)(cr:Bool):∀a∈aH gs m cr,dn a=0:=by
 intro a I
 rcases aP.1 I with h|h
 ·exact aj0 a h
 obtain⟨g,_,rfl⟩:=pJ.1 h;exact(Za g cr).1
def R6(gs:List Gr)(m:Nat)(cr:Bool):(aH gs m cr).length<=2+m:=by
 unfold aH mks;simp;omega
def Nc{k:Int}{n:Nat}(h:(k=9\/k=3)/\n<5\/k=7/\n=0):dn (PG k (n:Int))=0/\(PG k (n:Int)).kd≠1:=by
 rcases h with⟨h1,h⟩|⟨rfl,rfl⟩
 ·have:n=0\/n=1\/n=2\/n=3\/n=4:=Y
  rcases h1 with rfl|rfl<;>rcases this with rfl|rfl|rfl|rfl|rfl<;>exact⟨E,by show(_:Int)≠1;decide⟩
 exact⟨E,by show(7:Int)≠1;decide⟩
def R8:∀(r:Nat),∀a∈Am r,dn a=0/\a.kd≠1
 | 0,a,h=>by cases h
 |r+1,a,h=>by
  rw[Et]at h
  rcases aP.1 h with h|h
  ·rcases aP.1 h with h|h
   ·exact R8 r a h
   obtain⟨n,hn,rfl⟩:=pJ.1 h;exact Nc (.inl ⟨.inr E,KH.1 hn⟩)
  rw[aF]at h;subst h;exact Nc (n:=0) (.inr ⟨E,E⟩)
def afS(r:Nat):∀a∈starts 5++Am r,dn a=0/\a.kd≠1:=by
 intro a h
 rcases aP.1 h with h|h
 ·obtain⟨n,hn,rfl⟩:=pJ.1 h;exact Nc (.inl ⟨.inl E,KH.1 hn⟩)
 exact R8 r a h
end Go.Proofs.YtefabpdniidmbaaGreatDoor
