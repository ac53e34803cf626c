import Derived.Test.YtceeleolddkibaaGreatDoorG219fd
set_option linter.all false
set_option maxRecDepth 100000
set_option maxHeartbeats 8000000
namespace Go.Proofs.YtceeleolddkibaaGreatDoor
open List Nat Go.Proofs.Tryz ChangeShapes WideShapes RowKit
section
def Zl{P:Program}{t:TypeId}{xo yo:Operand}{w:World}{a b c:Nat}(h:c=a % b)(I:b≠0):(do eqGuard .rem t xo yo (D (a:Int)) (D (b:Int));binOp .rem t (D (a:Int)) (D (b:Int)):Sem Value).run P w=.ok (D (c:Int)) w:=by
 subst h;have h1:((a:Int)).tmod (b:Int)=((a % b:Nat):Int):=by rw[acN (Int.natCast_nonneg a)];rfl
 have J:¬((b:Int)=0):=Y;simp[binOp,Op.intDiv,J,h1,eqGuard_rem];exact λh=>av h I
def D7{m:Cl}{n q:Nat}{X:Nd}{b:bF}(h:m.au n=X)(I:q=X.turn % 4)(J:X.bs q=b):m.lM n={ (m.put n {X with turn:=X.turn+1})with PI:=m.PI++iG n q b (X.QA q)}:=by
 subst h;subst I;subst J;rfl
def fC.turn{K:CK}{L:List Nf}{n t:Nat}{X:Nd}{z:NX}(h:fC K L n X z):fC K L n {X with turn:=t} z:=⟨h.Vu,h.Xc,h.AX,h.ixm,h.ixo,h.nU⟩
def aAv{fx:List LX}{x y:LX}{P:LX->Prop}(I:P x)(J:P y):∀u∈fx++[x,y],u∈fx\/P u:=λu M=>(bD.1 M).elim .inl λh=>by
 rcases iR.1 h with h|h
 ·subst h;exact .inr I
 rw[aI]at h;subst h;exact .inr J
def abJ{K:CK}{B n kn kw:Nat}{w0 w:World}{fs:List Nf}{m:Cl}{H:List LX}(hn:n<5)(M:K.nb n=kn)(O:K.wb=kw)(hu:Uk B w0)(hB1:m.PI.length<=1000000000)(hB2:m.bH.length<=1000000000000)(HW:Wd K B w0 w fs m H)(htn:(m.au n).turn<=1000000000000)(hv:∀q,q<4->aA ((m.au n).bs q)=0):
 Calls prog 42 #[pV kw 0,pV kn 0] w (λe w'=>e=.returned (.tuple #[])/\Wd K B w0 w' fs (m.lM n) H):=by
 obtain⟨R,G,S0⟩:=HW.open hn;have hfl:R.fx.length=m.PI.length:=by rw[<-G.PI,gK]
 have NG:=G.jO n hn;obtain⟨X,hX⟩:∃X,m.au n=X:=⟨_,E⟩;obtain⟨z,hz⟩:∃z,R.nx n=z:=⟨_,E⟩;rw[hX,hz]at S0 NG;have hL:∀f∈R.L,f∈iM K R m fs n:=λf h=>aL _ (aL _ h);obtain⟨rr,Z⟩:∃r,iM K R m fs n=r:=⟨_,E⟩;rw[Z]at S0 hL;have S:St B w0 w (cN kn n X z z.pv (cF kw R m rr)):=by subst M;subst O;exact S0
 clear S0 HW;have hlen:=(S.own 1 E).1;rw[jF (sz:=6) (λ_=>E)]at hlen;rw[hX]at hv htn;obtain⟨q,hqt⟩:∃q,q=X.turn % 4:=⟨_,E⟩;have hq:q<4:=Y;obtain⟨y,hy,hyb,tQ⟩:=NG.at_ hq;have PE:=zV (hyb▸hv _ hq);refine iW 89 func42 ?_;refine cw [0,1] ?_;refine zN 6 ?_;refine vv (v:=D ((q:Nat):Int)) (cO E E E (Zl hqt dQ)) ?_;refine zN 9 ?_;refine vv (v:=D ((X.turn+1:Nat):Int)) jB ?_;refine zN 2 ?_;refine kU (row':=eP n X.up (.slice z.tA X.data.length z.tc) X.Qr (.slice (aD z.bb 0) 4 4) X.QC X.QA (.slice z.iA z.ix.length z.ic) (z.pv) (X.turn+1)) 0 S kQ ?_;intro w1 S2;refine zN 9 ?_;refine vv (mY q) ?_;refine vv (ay E E (eZ (cs:=BX.cells y) (Rd.Al (St.Vj 1 S2 E) (λ_ _ h=>dw (enc:=BX.cells) (sz:=6) (λ_=>E) hy h)))) ?_;refine iL S2 iI ?_;intro b3 w4 S5;refine sa 0 S5 kQ ?_;intro w6 S7;refine zN 7 ?_;by_cases h8:y.b.GR=2
 ·refine zN 9 ?_;have S9:=S7.fJ [5,5];have F8:=S9.drew;refine aO 13 F8 [1,0] ?_;refine aP 10 ?_;refine ak (v:=D (y.b.ep+1)) 10 E (F8.sZ [1,0]) (λ_ _=>jB) ?_;refine ak (v:=.agg #[D 2,D (n:Int),D y.b.tg,D ((q:Nat):Int),D (y.b.ep+1),D 0,D 0,D 0,D 0,D 0,D 0,D 0,D 0,.slice none 0 0,.bool false,D 0,D 0,D 0,D 0,D 0,D 0,D 0,D 0]) 11 E (F8.sZ [1,0]) (λ_ _=>iE) ?_;refine bG 12 ?_;refine lN 12 E eQ (jg (x:=⟨yU n q y.b,none,0⟩) F8 Y) ?_;rintro _ Rs ⟨rfl,A23,c24,aFS,aFT,wm⟩;refine⟨_,E,?_⟩;refine aP 2 ?_;refine zN 36 ?_;have xL:=wm.bg [2];have Ew:=xL.fJ [6,6,3,3,6,6,6];have I:iG n q y.b (X.QA q)=[yU n q y.b]:=by
   unfold iG
   (rw[aj (by first|omega|exact⟨by omega,by omega,by assumption⟩),ah (by first|omega|(rintro⟨h1,h2,h3⟩;first|omega|simp_all)),ah (by first|omega|(rintro⟨h1,h2,h3⟩;first|omega|simp_all))])<;>rfl
  rw[D7 hX hqt hyb.symm];have J:=aFT;exact⟨E,Wd.eU (X':={X with turn:=X.turn+1}) (z':=z) (Ls:=[]) (fA:=A23) (fc:=c24) (fx:=aFS) (sA:=R.sA) (sc:=R.sc) (tA:=R.tA) (tc:=R.tc) M O Z G hn Ew (fC.turn NG.more) (by rw[J];exact rE (jW E)) E (by rw[J,I,gX,G.PI];rfl) (λu h=>.inl h)⟩
 refine zN 4 ?_;by_cases h31:y.b.GR=3
 ·refine zN 5 ?_;have uh:=S7.fJ [5,5];have yS:=uh.drew;refine aO 13 yS [1,0] ?_;refine aP 10 ?_;refine ak (v:=D (y.b.ep+1)) 10 E (yS.sZ [1,0]) (λ_ _=>jB) ?_;refine ak (v:=.agg #[D 2,D (n:Int),D y.b.tg,D ((q:Nat):Int),D (y.b.ep+1),D 0,D 0,D 0,D 0,D 0,D 0,D 0,D 0,.slice none 0 0,.bool false,D 0,D 0,D 0,D 0,D 0,D 0,D 0,D 0]) 11 E (yS.sZ [1,0]) (λ_ _=>iE) ?_;refine bG 12 ?_;refine lN 12 E eQ (jg (x:=⟨yU n q y.b,none,0⟩) yS Y) ?_;rintro _ Zb ⟨rfl,A46,WV,aOo,ayb,yh⟩;refine⟨_,E,?_⟩;refine aP 2 ?_;refine zN 17 ?_;refine vv (v:=.agg #[D 5,D (n:Int),D (-2),D ((q:Nat):Int),D 0,D 0,D (-1),D 0,D 0,D 0,D 0,D 0,D 0,.slice none 0 0,.bool false,D 0,D 0,D 0,D 0,D 0,D 0,D 0,D 0]) iE ?_;refine eB eQ (jg (x:=⟨RV n q,none,0⟩) yh (by simp only[ayb,length_append,length_cons,length_nil];omega)) ?_;rintro _ w56 ⟨rfl,A52,c53,ayc,aFU,yR⟩;refine⟨_,E,?_⟩;refine zN 26 ?_;have Gd:=yR.bg [2];have Ez:=Gd.fJ [6,6,3,3,6,6,6];have I:iG n q y.b (X.QA q)=[yU n q y.b,RV n q]:=by
   unfold iG
   (rw[aj (by first|omega|exact⟨by omega,by omega,by assumption⟩),aj (by first|omega|exact⟨by omega,by omega,by assumption⟩),ah (by first|omega|(rintro⟨h1,h2,h3⟩;first|omega|simp_all))])<;>rfl
  rw[D7 hX hqt hyb.symm];have J:ayc=R.fx++[⟨yU n q y.b,none,0⟩,⟨RV n q,none,0⟩]:=by rw[aFU,ayb];simp
  exact⟨E,Wd.eU (X':={X with turn:=X.turn+1}) (z':=z) (Ls:=[]) (fA:=A52) (fc:=c53) (fx:=ayc) (sA:=R.sA) (sc:=R.sc) (tA:=R.tA) (tc:=R.tc) M O Z G hn Ez (fC.turn NG.more) (by rw[J];exact aAv (jW E) (jW E)) E (by rw[J,I,gX,G.PI];rfl) (λu h=>.inl h)⟩
 refine zN 22 ?_;by_cases h60:y.b.GR=1
 ·refine zN 4 ?_;by_cases h61:1<y.b.ep
  ·refine zN 7 ?_;refine vg (v:=pV kn (13+q*1)) (aQ E E E (fu q Tryz.underlying92 kQ E hq)) ?_;refine vg (ay E E (aV (St.cl 1 S7 E (aoN hq)))) ?_
   cases ax0:(X.QA q)
   ·refine zN 5 ?_;have zD:=S7.fJ [5,5];have S64:=zD.drew;refine aO 15 S64 [1,0] ?_;refine aP 8 ?_;refine ak (v:=D (y.b.ep-1)) 8 E (S64.sZ [1,0]) (λ_ _=>ysu) ?_;refine aP 4 ?_;refine ak (v:=.agg #[D 5,D (n:Int),D (-2),D ((q:Nat):Int),D (y.b.ep-1),D 0,D (n:Int),D 0,D 0,D 0,D 0,D 0,D 0,.slice none 0 0,.bool false,D 0,D 0,D 0,D 0,D 0,D 0,D 0,D 0]) 13 E (S64.sZ [1,0]) (λ_ _=>iE) ?_;refine bG 14 ?_;refine lN 14 E eQ (jg (x:=⟨PZ n q y.b,none,0⟩) S64 Y) ?_;rintro _ w83 ⟨rfl,A79,c80,aFV,aFW,Jp⟩;refine⟨_,E,?_⟩;refine aP 2 ?_;refine dD (l':=[]) trivial (ru ?_);have Hw:=Jp.bg [2];have CQ:=Hw.fJ [6,6,3,3,6,6,6];have I:iG n q y.b (X.QA q)=[PZ n q y.b]:=by
     unfold iG
     (rw[ah (by first|omega|(rintro⟨h1,h2,h3⟩;first|omega|simp_all)),ah (by first|omega|(rintro⟨h1,h2,h3⟩;first|omega|simp_all)),aj (by first|omega|exact⟨by omega,by omega,by assumption⟩)])<;>rfl
    rw[D7 hX hqt hyb.symm];have J:=aFW;exact⟨E,Wd.eU (X':={X with turn:=X.turn+1}) (z':=z) (Ls:=[]) (fA:=A79) (fc:=c80) (fx:=aFV) (sA:=R.sA) (sc:=R.sc) (tA:=R.tA) (tc:=R.tc) M O Z G hn CQ (fC.turn NG.more) (by rw[J];exact rE (jW E)) E (by rw[J,I,gX,G.PI];rfl) (λu h=>.inl h)⟩
   refine zN 7 ?_;have Ga:=S7.bg [0];have I:iG n q y.b (X.QA q)=[]:=by
    unfold iG
    (rw[ah (by first|omega|(rintro⟨h1,h2,h3⟩;first|omega|simp_all)),ah (by first|omega|(rintro⟨h1,h2,h3⟩;first|omega|simp_all)),ah (by first|omega|(rintro⟨h1,h2,h3⟩;first|omega|simp_all))])<;>rfl
   rw[D7 hX hqt hyb.symm];exact⟨E,Wd.eU (X':={X with turn:=X.turn+1}) (z':=z) (Ls:=[]) (fA:=R.fA) (fc:=R.fc) (fx:=R.fx) (sA:=R.sA) (sc:=R.sc) (tA:=R.tA) (tc:=R.tc) M O Z G hn Ga (fC.turn NG.more) (λu hu=>.inl hu) E (by rw[I,G.PI,bI]) (λu h=>.inl h)⟩
  refine zN 16 ?_;have Ql:=S7.bg [0];have I:iG n q y.b (X.QA q)=[]:=by
   unfold iG
   (rw[ah (by first|omega|(rintro⟨h1,h2,h3⟩;first|omega|simp_all)),ah (by first|omega|(rintro⟨h1,h2,h3⟩;first|omega|simp_all)),ah (by first|omega|(rintro⟨h1,h2,h3⟩;first|omega|simp_all))])<;>rfl
  rw[D7 hX hqt hyb.symm];exact⟨E,Wd.eU (X':={X with turn:=X.turn+1}) (z':=z) (Ls:=[]) (fA:=R.fA) (fc:=R.fc) (fx:=R.fx) (sA:=R.sA) (sc:=R.sc) (tA:=R.tA) (tc:=R.tc) M O Z G hn Ql (fC.turn NG.more) (λu hu=>.inl hu) E (by rw[I,G.PI,bI]) (λu h=>.inl h)⟩
 refine zN 20 ?_;have Qk:=S7.bg [0];have I:iG n q y.b (X.QA q)=[]:=by
  unfold iG
  (rw[ah (by first|omega|(rintro⟨h1,h2,h3⟩;first|omega|simp_all)),ah (by first|omega|(rintro⟨h1,h2,h3⟩;first|omega|simp_all)),ah (by first|omega|(rintro⟨h1,h2,h3⟩;first|omega|simp_all))])<;>rfl
 rw[D7 hX hqt hyb.symm];exact⟨E,Wd.eU (X':={X with turn:=X.turn+1}) (z':=z) (Ls:=[]) (fA:=R.fA) (fc:=R.fc) (fx:=R.fx) (sA:=R.sA) (sc:=R.sc) (tA:=R.tA) (tc:=R.tc) M O Z G hn Qk (fC.turn NG.more) (λu hu=>.inl hu) E (by rw[I,G.PI,bI]) (λu h=>.inl h)⟩
def aiw{P:Program}{t:TypeId}{xo yo:Operand}{w:World}{a b:Int}(h:0<=a)(I:0<b):(do eqGuard .rem t xo yo (D a) (D b);binOp .rem t (D a) (D b):Sem Value).run P w=.ok (D (a % b)) w:=by
 obtain⟨k,rfl⟩:=oF h;obtain⟨m,rfl⟩:=oF (He I);exact Zl (c:=k % m) E Y
def aAw{P:Program}{w:World}{x:Int}(h: -9223372036854775807<=x/\x<=9223372036854775807):(Op.unary .neg (D x)).run P w=.ok (D (-x)) w:=by
 simp[Op.unary,Op.intArith,Int.zero_sub,Vx (z:= -x) Y Y]
def aW(n m:Int):Int:=(if n<0 then-(n+1)else n) % m
def oO{n m:Int}(h:0<m):0<=aW n m/\aW n m<m:=⟨Int.emod_nonneg _ Y,Int.emod_lt_of_pos _ h⟩
def qc(k a b c:Int):Ev:=
 if aW k 8<3 then⟨1,aW a 2,aW b 24,aW c 1000,0,0⟩else if aW k 8<5 then⟨2,0,0,0,0,0⟩
 else if aW k 8<7 then⟨3,0,0,0,aW a 3,aW b 6⟩else⟨4,0,0,0,0,0⟩
structure Gr where
 kd:Int
 a:Int
 b:Int
 c:Int
 d:Int
def Gr.cells(g:Gr):List Value:=[D g.kd,D g.a,D g.b,D g.c,D g.d]
def OT(x:Int):Prop:= -9223372036854775808<=x/\x<=9223372036854775807
def Gr.ok(g:Gr):Prop:=OT g.kd/\OT g.a/\OT g.b/\OT g.c/\OT g.d
def P7(g:Gr)(e:Ev):Ac:=⟨2,aW g.a 3,aW g.b 2,0,0,if e.kind=4 then 2 else e.kind,e.Pv,e.id,e.body,e.Qs,e.Qz⟩
def iy(g:Gr)(cr:Bool):Ac:=
 if aW g.kd 24<7 then P7 g (qc g.c g.a g.d g.d)
 else if aW g.kd 24<13 then⟨3,aW g.a 3,0,0,0,0,0,0,0,0,0⟩
 else if aW g.kd 24=13 then⟨4,0,0,aW g.c 20,0,0,0,0,0,0,0⟩
 else if aW g.kd 24=14 then⟨5,0,0,aW g.c 20,0,0,0,0,0,0,0⟩
 else if aW g.kd 24=15 then⟨6,0,0,aW g.c 20,0,0,0,0,0,0,0⟩
 else if aW g.kd 24=16 then⟨10,aW g.a 3,aW g.b 2,0,0,0,0,0,0,0,0⟩
 else if aW g.kd 24=17/\cr=true then⟨8,aW g.a 3,0,0,aW g.c 120,0,0,0,0,0,0⟩
 else if aW g.kd 24=18/\cr=true then⟨9,aW g.a 3,0,0,0,0,0,0,0,0,0⟩
 else⟨7,0,0,0,0,0,0,0,0,0,0⟩
def ig{n m:Int}(hn: -9223372036854775808<=n/\n<=9223372036854775807)(h:0<m)(w:World):
 Calls prog 12 #[D n,D m] w (λe w'=>e=.returned (D (aW n m))/\w'=w):=by
 have S:=St.start w;refine iW 13 func12 ?_;refine cw [0,1] ?_;refine zN 9 ?_;by_cases h1:n<0
 ·refine zN 6 ?_;refine vv (v:=D (n+1)) jB ?_;refine vv (v:=D (-(n+1))) (ahC E E (aAw Y)) ?_;refine zN 7 ?_;refine vv (v:=D ((-(n+1)) % m)) (cO E E E (aiw Y h)) ?_;refine zN 5 ?_;rw[show aW n m=((-(n+1)) % m)from by unfold aW;first|rw[aj Y]|rw[ah Y]];exact⟨E,E⟩
 refine zN 10 ?_;refine vv (v:=D (n % m)) (cO E E E (aiw Y h)) ?_;refine zN 5 ?_;rw[show aW n m=(n % m)from by unfold aW;first|rw[aj Y]|rw[ah Y]];exact⟨E,E⟩
def lD{n m:Int}(hn: -9223372036854775808<=n/\n<=9223372036854775807)(h:0<m)(w:World):
 Calls prog 8 #[D n,D m] w (λe w'=>e=.returned (D (aW n m))/\w'=w):=by
 have S:=St.start w;refine iW 8 func8 ?_;refine cw [0,1] ?_;refine zN 9 ?_;refine eB eQ (ig hn h _) ?_;rintro _ I ⟨rfl,rfl⟩;refine⟨_,E,?_⟩;refine zN 5 ?_;exact⟨E,E⟩
def YN{k a b c:Int}(h1:OT k)(h2:OT a)(h3:OT b)(h4:OT c)(w:World):
 Calls prog 21 #[.agg #[D k,D a,D b,D c]] w (λe w'=>e=.returned (.agg (Ev.cells (qc k a b c)).toArray)/\Below w.heap.size w w'):=by
 have S:=St.start w;refine iW 36 Tryz.func21 ?_;refine cw [0] ?_;refine zN 2 ?_;refine jM S ?_;intro b1 w2 S3;refine iL S3 aem ?_;intro b4 w5 O;refine zQ ?_;refine Y3 (vv (rV 0 acu) ?_);refine zQ ?_;refine eB El (ig (m:=8) h1 (by decide) _) ?_;rintro _ w7 ⟨rfl,rfl⟩;refine⟨_,E,?_⟩;refine zN 5 ?_;have hp:=oO (n:=k) (m:=8) (by decide);refine zQ ?_;by_cases h8:(aW k 8)=0
 ·refine zN 9 ?_;have Z:=O.drew;refine gT 11 10 Z [] ?_;refine gk (v:=.pointer (some ⟨b1,1,none⟩)) 0 E Z (λ_ _=>rV _ DT) ?_;refine jf ?_;refine gk (v:=.pointer (some ⟨b1,2,none⟩)) 3 E Z (λ_ _=>rV _ DU) ?_;refine jf ?_;refine gk (v:=.pointer (some ⟨b1,3,none⟩)) 6 E Z (λ_ _=>rV _ Lv) ?_;refine jf ?_;refine gF (m:=4) (r:=2) (by kernel_rfl) ?_;refine nL (i:=2) E E (wn E) E E (jK (vs:=[D a,D 2]) E El ⟨E,E,trivial⟩) (ig (m:=2) h2 (by decide) _) ?_;rintro _ w16 ⟨rfl,rfl⟩;refine⟨_,E,?_⟩;refine jf ?_;refine gF (m:=3) (r:=5) (by kernel_rfl) ?_;refine nL (i:=5) E E (wn E) E E (jK (vs:=[D b,D 24]) E El ⟨E,E,trivial⟩) (ig (m:=24) h3 (by decide) _) ?_;rintro _ Qh ⟨rfl,rfl⟩;refine⟨_,E,?_⟩;refine jf ?_;refine gF (m:=2) (r:=8) (by kernel_rfl) ?_;refine nL (i:=8) E E (wn E) E E (jK (vs:=[D c,D 1000]) E El ⟨E,E,trivial⟩) (ig (m:=1000) h4 (by decide) _) ?_;rintro _ Qi ⟨rfl,rfl⟩;refine⟨_,E,?_⟩;refine jf ?_;refine gk (v:=.agg #[D 1,D (aW a 2),D (aW b 24),D (aW c 1000),D 0,D 0]) 9 E Z (λ_ _=>iE) ?_;refine gy (by kernel_rfl) E E E ?_;refine sa 0 Z DL ?_;intro w20 yj;refine zQ ?_;refine jY ?_;refine zN 5 ?_;rw[show qc k a b c=⟨1,(aW a 2),(aW b 24),(aW c 1000),0,0⟩from by unfold qc;first|rw[aj (by omega)]|rw[ah (by omega),aj (by omega)]|rw[ah (by omega),ah (by omega),aj (by omega)]|rw[ah (by omega),ah (by omega),ah (by omega)]];exact⟨E,yj.QM⟩
 refine zN 7 ?_;by_cases h22:(aW k 8)=1
 ·refine zN 9 ?_;have h:=O.drew;refine gT 11 10 h [] ?_;refine gk (v:=.pointer (some ⟨b1,1,none⟩)) 0 E h (λ_ _=>rV _ DT) ?_;refine jf ?_;refine gk (v:=.pointer (some ⟨b1,2,none⟩)) 3 E h (λ_ _=>rV _ DU) ?_;refine jf ?_;refine gk (v:=.pointer (some ⟨b1,3,none⟩)) 6 E h (λ_ _=>rV _ Lv) ?_;refine jf ?_;refine gF (m:=4) (r:=2) (by kernel_rfl) ?_;refine nL (i:=2) E E (wn E) E E (jK (vs:=[D a,D 2]) E El ⟨E,E,trivial⟩) (ig (m:=2) h2 (by decide) _) ?_;rintro _ Za ⟨rfl,rfl⟩;refine⟨_,E,?_⟩;refine jf ?_;refine gF (m:=3) (r:=5) (by kernel_rfl) ?_;refine nL (i:=5) E E (wn E) E E (jK (vs:=[D b,D 24]) E El ⟨E,E,trivial⟩) (ig (m:=24) h3 (by decide) _) ?_;rintro _ w31 ⟨rfl,rfl⟩;refine⟨_,E,?_⟩;refine jf ?_;refine gF (m:=2) (r:=8) (by kernel_rfl) ?_;refine nL (i:=8) E E (wn E) E E (jK (vs:=[D c,D 1000]) E El ⟨E,E,trivial⟩) (ig (m:=1000) h4 (by decide) _) ?_;rintro _ w32 ⟨rfl,rfl⟩;refine⟨_,E,?_⟩;refine jf ?_;refine gk (v:=.agg #[D 1,D (aW a 2),D (aW b 24),D (aW c 1000),D 0,D 0]) 9 E h (λ_ _=>iE) ?_;refine gy (by kernel_rfl) E E E ?_;refine sa 0 h DL ?_;intro w34 Gc;refine zQ ?_;refine jY ?_;refine zN 5 ?_;rw[show qc k a b c=⟨1,(aW a 2),(aW b 24),(aW c 1000),0,0⟩from by unfold qc;first|rw[aj (by omega)]|rw[ah (by omega),aj (by omega)]|rw[ah (by omega),ah (by omega),aj (by omega)]|rw[ah (by omega),ah (by omega),ah (by omega)]];exact⟨E,Gc.QM⟩
 refine zN 6 ?_;by_cases Cx:(aW k 8)=2
 ·refine zN 6 ?_;have I:=O.drew;refine gT 11 10 I [] ?_;refine gk (v:=.pointer (some ⟨b1,1,none⟩)) 0 E I (λ_ _=>rV _ DT) ?_;refine jf ?_;refine gk (v:=.pointer (some ⟨b1,2,none⟩)) 3 E I (λ_ _=>rV _ DU) ?_;refine jf ?_;refine gk (v:=.pointer (some ⟨b1,3,none⟩)) 6 E I (λ_ _=>rV _ Lv) ?_;refine jf ?_;refine gF (m:=4) (r:=2) (by kernel_rfl) ?_;refine nL (i:=2) E E (wn E) E E (jK (vs:=[D a,D 2]) E El ⟨E,E,trivial⟩) (ig (m:=2) h2 (by decide) _) ?_;rintro _ U4 ⟨rfl,rfl⟩;refine⟨_,E,?_⟩;refine jf ?_;refine gF (m:=3) (r:=5) (by kernel_rfl) ?_;refine nL (i:=5) E E (wn E) E E (jK (vs:=[D b,D 24]) E El ⟨E,E,trivial⟩) (ig (m:=24) h3 (by decide) _) ?_;rintro _ w45 ⟨rfl,rfl⟩;refine⟨_,E,?_⟩;refine jf ?_;refine gF (m:=2) (r:=8) (by kernel_rfl) ?_;refine nL (i:=8) E E (wn E) E E (jK (vs:=[D c,D 1000]) E El ⟨E,E,trivial⟩) (ig (m:=1000) h4 (by decide) _) ?_;rintro _ w46 ⟨rfl,rfl⟩;refine⟨_,E,?_⟩;refine jf ?_;refine gk (v:=.agg #[D 1,D (aW a 2),D (aW b 24),D (aW c 1000),D 0,D 0]) 9 E I (λ_ _=>iE) ?_;refine gy (by kernel_rfl) E E E ?_;refine sa 0 I DL ?_;intro Zf yT;refine zQ ?_;refine jY ?_;refine zN 5 ?_;rw[show qc k a b c=⟨1,(aW a 2),(aW b 24),(aW c 1000),0,0⟩from by unfold qc;first|rw[aj (by omega)]|rw[ah (by omega),aj (by omega)]|rw[ah (by omega),ah (by omega),aj (by omega)]|rw[ah (by omega),ah (by omega),ah (by omega)]];exact⟨E,yT.QM⟩
 refine zN 8 ?_;by_cases h50:(aW k 8)=3
 ·refine zN 10 ?_;refine vv (v:=.agg #[D 2,D 0,D 0,D 0,D 0,D 0]) iE ?_;refine sa 0 O DL ?_;intro w51 rH;refine zN 6 ?_;rw[show qc k a b c=⟨2,0,0,0,0,0⟩from by unfold qc;first|rw[aj (by omega)]|rw[ah (by omega),aj (by omega)]|rw[ah (by omega),ah (by omega),aj (by omega)]|rw[ah (by omega),ah (by omega),ah (by omega)]];exact⟨E,rH.QM⟩
 refine zN 6 ?_;by_cases h53:(aW k 8)=4
 ·refine zN 7 ?_;refine vv (v:=.agg #[D 2,D 0,D 0,D 0,D 0,D 0]) iE ?_;refine sa 0 O DL ?_;intro w54 zh;refine zN 6 ?_;rw[show qc k a b c=⟨2,0,0,0,0,0⟩from by unfold qc;first|rw[aj (by omega)]|rw[ah (by omega),aj (by omega)]|rw[ah (by omega),ah (by omega),aj (by omega)]|rw[ah (by omega),ah (by omega),ah (by omega)]];exact⟨E,zh.QM⟩
 refine zN 8 ?_;by_cases h56:(aW k 8)=5
 ·refine zN 9 ?_;have J:=O.drew;refine gT 9 8 J [] ?_;refine gk (v:=.pointer (some ⟨b1,1,none⟩)) 0 E J (λ_ _=>rV _ DT) ?_;refine jf ?_;refine gk (v:=.pointer (some ⟨b1,2,none⟩)) 3 E J (λ_ _=>rV _ DU) ?_;refine jf ?_;refine gF (m:=4) (r:=2) (by kernel_rfl) ?_;refine nL (i:=2) E E (wn E) E E (jK (vs:=[D a,D 3]) E El ⟨E,E,trivial⟩) (ig (m:=3) h2 (by decide) _) ?_;rintro _ w62 ⟨rfl,rfl⟩;refine⟨_,E,?_⟩;refine jf ?_;refine gF (m:=3) (r:=5) (by kernel_rfl) ?_;refine nL (i:=5) E E (wn E) E E (jK (vs:=[D b,D 6]) E El ⟨E,E,trivial⟩) (ig (m:=6) h3 (by decide) _) ?_;rintro _ w63 ⟨rfl,rfl⟩;refine⟨_,E,?_⟩;refine jf ?_;refine gk (v:=.agg #[D (aW a 3),D (aW b 6)]) 6 E J (λ_ _=>iE) ?_;refine gk (v:=.agg #[D 3,D 0,D 0,D 0,D (aW a 3),D (aW b 6)]) 7 E J (λ_ _=>iE) ?_;refine gy (by kernel_rfl) E E E ?_;refine sa 0 J DL ?_;intro Zc xI;refine zQ ?_;refine jY ?_;refine zN 5 ?_;rw[show qc k a b c=⟨3,0,0,0,(aW a 3),(aW b 6)⟩from by unfold qc;first|rw[aj (by omega)]|rw[ah (by omega),aj (by omega)]|rw[ah (by omega),ah (by omega),aj (by omega)]|rw[ah (by omega),ah (by omega),ah (by omega)]];exact⟨E,xI.QM⟩
 refine zN 6 ?_;by_cases h68:(aW k 8)=6
 ·refine zN 6 ?_;have M:=O.drew;refine gT 9 8 M [] ?_;refine gk (v:=.pointer (some ⟨b1,1,none⟩)) 0 E M (λ_ _=>rV _ DT) ?_;refine jf ?_;refine gk (v:=.pointer (some ⟨b1,2,none⟩)) 3 E M (λ_ _=>rV _ DU) ?_;refine jf ?_;refine gF (m:=4) (r:=2) (by kernel_rfl) ?_;refine nL (i:=2) E E (wn E) E E (jK (vs:=[D a,D 3]) E El ⟨E,E,trivial⟩) (ig (m:=3) h2 (by decide) _) ?_;rintro _ w74 ⟨rfl,rfl⟩;refine⟨_,E,?_⟩;refine jf ?_;refine gF (m:=3) (r:=5) (by kernel_rfl) ?_;refine nL (i:=5) E E (wn E) E E (jK (vs:=[D b,D 6]) E El ⟨E,E,trivial⟩) (ig (m:=6) h3 (by decide) _) ?_;rintro _ w75 ⟨rfl,rfl⟩;refine⟨_,E,?_⟩;refine jf ?_;refine gk (v:=.agg #[D (aW a 3),D (aW b 6)]) 6 E M (λ_ _=>iE) ?_;refine gk (v:=.agg #[D 3,D 0,D 0,D 0,D (aW a 3),D (aW b 6)]) 7 E M (λ_ _=>iE) ?_;refine gy (by kernel_rfl) E E E ?_;refine sa 0 M DL ?_;intro w78 F4;refine zQ ?_;refine jY ?_;refine zN 5 ?_;rw[show qc k a b c=⟨3,0,0,0,(aW a 3),(aW b 6)⟩from by unfold qc;first|rw[aj (by omega)]|rw[ah (by omega),aj (by omega)]|rw[ah (by omega),ah (by omega),aj (by omega)]|rw[ah (by omega),ah (by omega),ah (by omega)]];exact⟨E,F4.QM⟩
 refine zN 10 ?_;refine vv (v:=.agg #[D 4,D 0,D 0,D 0,D 0,D 0]) iE ?_;refine sa 0 O DL ?_;intro w80 xJ;refine zN 4 ?_;rw[show qc k a b c=⟨4,0,0,0,0,0⟩from by unfold qc;first|rw[aj (by omega)]|rw[ah (by omega),aj (by omega)]|rw[ah (by omega),ah (by omega),aj (by omega)]|rw[ah (by omega),ah (by omega),ah (by omega)]];exact⟨E,xJ.QM⟩
def YO{k a b c:Int}(h1:OT k)(J:OT a)(M:OT b)(O:OT c)(w:World):
 Calls prog 16 #[.agg #[D k,D a,D b,D c]] w (λe w'=>e=.returned (.agg (Ev.cells (qc k a b c)).toArray)/\Below w.heap.size w w'):=by
 have S:=St.start w;refine iW 5 func16 ?_;refine cw [0] ?_;refine zN 2 ?_;refine jM S ?_;intro b1 w2 Z;refine iL Z aem ?_;intro b4 w5 I;refine zQ ?_;refine ahd (vv (ay E E (rM 1 I E Tryz.underlying75 E kQ E)) ?_);refine Vm eQ I (YN h1 J M O _) ?_;intro w7 S8;refine sa 0 S8 kQ ?_;intro w10 h;refine zN 4 ?_;exact⟨E,h.QM⟩
def af7{g:Gr}(h:g.ok)(cr:Bool)(w:World):
 Calls prog 10 #[.agg #[D g.kd,D g.a,D g.b,D g.c,D g.d],.bool cr] w (λe w'=>e=.returned (.agg (Ac.cells (iy g cr)).toArray)/\Below w.heap.size w w'):=by
 have S:=St.start w;refine iW 91 func10 ?_;refine cw [0,1] ?_;refine zN 2 ?_;refine jM S ?_;intro b1 w2 S3;refine iL S3 alh ?_;intro b4 w5 I;refine zQ ?_;refine ahd (vv (rV 1 TI) ?_);refine zQ ?_;refine eB VO (lD (m:=3) h.2.1 (by decide) _) ?_;rintro _ w7 ⟨rfl,rfl⟩;refine⟨_,E,?_⟩;refine zN 2 ?_;refine ahd (vv (rV 2 acr) ?_);refine zQ ?_;refine eB VO (lD (m:=2) h.2.2.1 (by decide) _) ?_;rintro _ w8 ⟨rfl,rfl⟩;refine⟨_,E,?_⟩;refine zN 2 ?_;refine Y3 (vv (rV 0 acp) ?_);refine zQ ?_;refine eB VO (lD (m:=24) h.1 (by decide) _) ?_;rintro _ w9 ⟨rfl,rfl⟩;refine⟨_,E,?_⟩;refine zN 7 ?_;by_cases h10:(aW g.kd 24)<7
 ·refine zN 3 ?_;refine Fa (vv (rV 3 DN) ?_);refine zQ ?_;refine vv (rV 1 TI) ?_;refine zQ ?_;refine vv (rV 4 TJ) ?_;refine zQ ?_;refine vv (rV 4 TJ) ?_;refine zQ ?_;refine vv (v:=.agg #[D g.c,D g.a,D g.d,D g.d]) iE ?_;refine Vm aCO I (YO h.2.2.2.1 h.2.1 h.2.2.2.2 h.2.2.2.2 _) ?_;intro KM M;refine iL M aem ?_;intro b14 OI O;refine sa 0 O DL ?_;intro Qh J;refine zN 7 ?_;by_cases h19:(qc g.c g.a g.d g.d).kind=4
  ·refine zN 6 ?_;refine KC 0 J ard ?_;intro w20 Z;refine zN 7 ?_;refine vv (v:=.agg #[D 2,D (aW g.a 3),D (aW g.b 2),D 0,D 0,D 2,D ((qc g.c g.a g.d g.d).Pv),D ((qc g.c g.a g.d g.d).id),D ((qc g.c g.a g.d g.d).body),D ((qc g.c g.a g.d g.d).Qs),D ((qc g.c g.a g.d g.d).Qz)]) iE ?_;refine sa 1 Z xD ?_;intro w22 rJ;refine zN 6 ?_;rw[show iy g cr=⟨2,(aW g.a 3),(aW g.b 2),0,0,2,(qc g.c g.a g.d g.d).Pv,(qc g.c g.a g.d g.d).id,(qc g.c g.a g.d g.d).body,(qc g.c g.a g.d g.d).Qs,(qc g.c g.a g.d g.d).Qz⟩from by unfold iy;rw[aj (by omega),P7,aj (by assumption)]];exact⟨E,rJ.QM⟩
  refine zN 11 ?_;refine vv (v:=.agg #[D 2,D (aW g.a 3),D (aW g.b 2),D 0,D 0,D ((qc g.c g.a g.d g.d).kind),D ((qc g.c g.a g.d g.d).Pv),D ((qc g.c g.a g.d g.d).id),D ((qc g.c g.a g.d g.d).body),D ((qc g.c g.a g.d g.d).Qs),D ((qc g.c g.a g.d g.d).Qz)]) iE ?_;refine sa 1 J xD ?_;intro RD nC;refine zN 6 ?_;rw[show iy g cr=⟨2,(aW g.a 3),(aW g.b 2),0,0,(qc g.c g.a g.d g.d).kind,(qc g.c g.a g.d g.d).Pv,(qc g.c g.a g.d g.d).id,(qc g.c g.a g.d g.d).body,(qc g.c g.a g.d g.d).Qs,(qc g.c g.a g.d g.d).Qz⟩from by unfold iy;rw[aj (by omega),P7,ah (by assumption)]];exact⟨E,nC.QM⟩
 refine zN 8 ?_;by_cases h26:(aW g.kd 24)<13
 ·refine zN 8 ?_;refine vv (v:=.agg #[D 3,D (aW g.a 3),D 0,D 0,D 0,D 0,D 0,D 0,D 0,D 0,D 0]) iE ?_;refine sa 0 I xD ?_;intro Rs wm;refine zN 6 ?_;rw[show iy g cr=⟨3,(aW g.a 3),0,0,0,0,0,0,0,0,0⟩from by unfold iy;rw[ah (by omega),aj (by omega)]];exact⟨E,wm.QM⟩
 refine zN 8 ?_;by_cases h29:(aW g.kd 24)=13
 ·refine zN 3 ?_;refine Fa (vv (rV 3 DN) ?_);refine zQ ?_;refine eB VO (lD (m:=20) h.2.2.2.1 (by decide) _) ?_;rintro _ Za ⟨rfl,rfl⟩;refine⟨_,E,?_⟩;refine vv (v:=.agg #[D 4,D 0,D 0,D (aW g.c 20),D 0,D 0,D 0,D 0,D 0,D 0,D 0]) iE ?_;refine sa 0 I xD ?_;intro w31 uh;refine zN 6 ?_;rw[show iy g cr=⟨4,0,0,(aW g.c 20),0,0,0,0,0,0,0⟩from by unfold iy;rw[ah (by omega),ah (by omega),aj (by omega)]];exact⟨E,uh.QM⟩
 refine zN 8 ?_;by_cases h33:(aW g.kd 24)=14
 ·refine zN 3 ?_;refine Fa (vv (rV 3 DN) ?_);refine zQ ?_;refine eB VO (lD (m:=20) h.2.2.2.1 (by decide) _) ?_;rintro _ w34 ⟨rfl,rfl⟩;refine⟨_,E,?_⟩;refine vv (v:=.agg #[D 5,D 0,D 0,D (aW g.c 20),D 0,D 0,D 0,D 0,D 0,D 0,D 0]) iE ?_;refine sa 0 I xD ?_;intro w35 wu;refine zN 6 ?_;rw[show iy g cr=⟨5,0,0,(aW g.c 20),0,0,0,0,0,0,0⟩from by unfold iy;rw[ah (by omega),ah (by omega),ah (by omega),aj (by omega)]];exact⟨E,wu.QM⟩
 refine zN 8 ?_;by_cases h37:(aW g.kd 24)=15
 ·refine zN 3 ?_;refine Fa (vv (rV 3 DN) ?_);refine zQ ?_;refine eB VO (lD (m:=20) h.2.2.2.1 (by decide) _) ?_;rintro _ w38 ⟨rfl,rfl⟩;refine⟨_,E,?_⟩;refine vv (v:=.agg #[D 6,D 0,D 0,D (aW g.c 20),D 0,D 0,D 0,D 0,D 0,D 0,D 0]) iE ?_;refine sa 0 I xD ?_;intro w39 zG;refine zN 6 ?_;rw[show iy g cr=⟨6,0,0,(aW g.c 20),0,0,0,0,0,0,0⟩from by unfold iy;rw[ah (by omega),ah (by omega),ah (by omega),ah (by omega),aj (by omega)]];exact⟨E,zG.QM⟩
 refine zN 8 ?_;by_cases h41:(aW g.kd 24)=16
 ·refine zN 9 ?_;refine vv (v:=.agg #[D 10,D (aW g.a 3),D (aW g.b 2),D 0,D 0,D 0,D 0,D 0,D 0,D 0,D 0]) iE ?_;refine sa 0 I xD ?_;intro WG vU;refine zN 6 ?_;rw[show iy g cr=⟨10,(aW g.a 3),(aW g.b 2),0,0,0,0,0,0,0,0⟩from by unfold iy;rw[ah (by omega),ah (by omega),ah (by omega),ah (by omega),ah (by omega),aj (by omega)]];exact⟨E,vU.QM⟩
 refine zN 6 ?_;have hp:=oO (n:=g.kd) (m:=24) (by decide)
 cases cr with
 |false=>
  refine zN 2 ?_;by_cases h44:(aW g.kd 24)=17
  ·refine zN 24 ?_;refine vv (v:=.agg #[D 7,D 0,D 0,D 0,D 0,D 0,D 0,D 0,D 0,D 0,D 0]) iE ?_;refine sa 0 I xD ?_;intro w45 zF;refine zN 4 ?_;rw[show iy g false=⟨7,0,0,0,0,0,0,0,0,0,0⟩from by unfold iy;rw[ah (by omega),ah (by omega),ah (by omega),ah (by omega),ah (by omega),ah (by omega),ah (λh=>by have:=h.2;cases this),ah (λh=>by have:=h.2;cases this)]];exact⟨E,zF.QM⟩
  refine zN 11 ?_;by_cases h47:(aW g.kd 24)=18
  ·refine zN 13 ?_;refine vv (v:=.agg #[D 7,D 0,D 0,D 0,D 0,D 0,D 0,D 0,D 0,D 0,D 0]) iE ?_;refine sa 0 I xD ?_;intro Zf yT;refine zN 4 ?_;rw[show iy g false=⟨7,0,0,0,0,0,0,0,0,0,0⟩from by unfold iy;rw[ah (by omega),ah (by omega),ah (by omega),ah (by omega),ah (by omega),ah (by omega),ah (λh=>by have:=h.2;cases this),ah (λh=>by have:=h.2;cases this)]];exact⟨E,yT.QM⟩
  refine zN 13 ?_;refine vv (v:=.agg #[D 7,D 0,D 0,D 0,D 0,D 0,D 0,D 0,D 0,D 0,D 0]) iE ?_;refine sa 0 I xD ?_;intro Zb yh;refine zN 4 ?_;rw[show iy g false=⟨7,0,0,0,0,0,0,0,0,0,0⟩from by unfold iy;rw[ah (by omega),ah (by omega),ah (by omega),ah (by omega),ah (by omega),ah (by omega),ah (λh=>by have:=h.2;cases this),ah (λh=>by have:=h.2;cases this)]];exact⟨E,yh.QM⟩
 |true=>
  refine zN 2 ?_;by_cases h52:(aW g.kd 24)=17
  ·refine zN 11 ?_;refine vv (rV 3 DN) ?_;refine zQ ?_;refine eB VO (lD (m:=120) h.2.2.2.1 (by decide) _) ?_;rintro _ w53 ⟨rfl,rfl⟩;refine⟨_,E,?_⟩;refine vv (v:=.agg #[D 8,D (aW g.a 3),D 0,D 0,D (aW g.c 120),D 0,D 0,D 0,D 0,D 0,D 0]) iE ?_;refine sa 0 I xD ?_;intro w54 zh;refine zN 6 ?_;rw[show iy g true=⟨8,(aW g.a 3),0,0,(aW g.c 120),0,0,0,0,0,0⟩from by unfold iy;rw[ah (by omega),ah (by omega),ah (by omega),ah (by omega),ah (by omega),ah (by omega),aj ⟨by omega,E⟩]];exact⟨E,zh.QM⟩
  refine zN 11 ?_;by_cases h56:(aW g.kd 24)=18
  ·refine zN 11 ?_;refine vv (v:=.agg #[D 9,D (aW g.a 3),D 0,D 0,D 0,D 0,D 0,D 0,D 0,D 0,D 0]) iE ?_;refine sa 0 I xD ?_;intro w57 Gd;refine zN 6 ?_;rw[show iy g true=⟨9,(aW g.a 3),0,0,0,0,0,0,0,0,0⟩from by unfold iy;rw[ah (by omega),ah (by omega),ah (by omega),ah (by omega),ah (by omega),ah (by omega),ah (λh=>by have:=h.1;omega),aj ⟨by omega,E⟩]];exact⟨E,Gd.QM⟩
  refine zN 13 ?_;refine vv (v:=.agg #[D 7,D 0,D 0,D 0,D 0,D 0,D 0,D 0,D 0,D 0,D 0]) iE ?_;refine sa 0 I xD ?_;intro w59 Gf;refine zN 4 ?_;rw[show iy g true=⟨7,0,0,0,0,0,0,0,0,0,0⟩from by unfold iy;rw[ah (by omega),ah (by omega),ah (by omega),ah (by omega),ah (by omega),ah (by omega),ah (λh=>by have:=h.1;omega),ah (λh=>by have:=h.1;omega)]];exact⟨E,Gf.QM⟩
def avn(x:Ac):∀u∈x.cells,u.oneCell'=true:=dh E
def akl(l:List Ac):∀u∈l.flatMap Ac.cells,u.oneCell'=true:=by
 intro u h;rw[Dx]at h;obtain⟨z,_,I⟩:=h;exact avn z u I
def Qo(k n:Int):Ac:=⟨k,n,0,0,0,0,0,0,0,0,0⟩
def mks:List Ac:=[⟨1,0,0,0,0,0,0,0,0,0,0⟩,⟨1,1,1,0,0,0,0,0,0,0,0⟩]
def bE(gs:List Gr)(m:Nat)(cr:Bool):List Ac:=mks++(gs.take m).map (iy · cr)
def YP{gs:List Gr}{k:Nat}{g:Gr}{cr:Bool}(h:gs[k]? =some g):bE gs (k+1) cr=bE gs k cr++[iy g cr]:=by
 unfold bE;rw[mQ,h];simp
def OU{gs:List Gr}{k m:Nat}{cr:Bool}(h1:k<=gs.length)(h:k<=m)(I:k=gs.length\/k=m):bE gs k cr=bE gs m cr:=by
 rcases I with rfl|rfl
 ·unfold bE;rw[jE aB,jE h]
 rfl
def OV{gs:List Gr}{k:Nat}{cr:Bool}(h:k<=gs.length):(bE gs k cr).length=2+k:=by
 unfold bE mks;simp;omega
def starts(k:Nat):List Ac:=(range k).map λ(n:Nat)=>Qo 9 (n:Int)
def steps(k:Nat):List Ac:=(range k).map λ(n:Nat)=>Qo 3 (n:Int)
def AY:Nat->List Ac
 | 0=>[]
 |i+1=>AY i++steps 5++[Qo 7 0]
def K3(k:Nat):starts (k+1)=starts k++[Qo 9 (k:Int)]:=by unfold starts;rw[range_succ,gX];rfl
def OW(k:Nat):steps (k+1)=steps k++[Qo 3 (k:Int)]:=by unfold steps;rw[range_succ,gX];rfl
def EO(i:Nat):AY (i+1)=AY i++steps 5++[Qo 7 0]:=rfl
def Xg:∀i,(AY i).length=6*i
 | 0=>rfl
 |i+1=>by rw[AY,aY,aY,Xg i];simp[steps];omega
def kS(l:List Ac)(r:Nat):List Ac:=l++starts 5++AY r
def NK{l:List Ac}{r:Nat}:(kS l r).length=l.length+5+6*r:=by
 unfold kS;rw[aY,aY,Xg];simp[starts]
def VA{gs:List Gr}{A:Option Addr}{c m:Nat}{cr:Bool}(hm:m<=1000)(hg:∀g∈gs,g.ok)(w:World)(h:Rd w w.heap.size 5 A gs.length (gs.flatMap Gr.cells)):
 Calls prog 4 #[.slice A gs.length c,D (m:Int),.bool cr] w (λe w'=> ∃A' c',e=.returned (.slice A' ((bE gs m cr).length) c')/\St w.heap.size w w' [.own 55 11 (.slice A' ((bE gs m cr).length) c') ((bE gs m cr).length) ((bE gs m cr).flatMap Ac.cells)]):=by
 have S:=(St.start w).dG h;refine iW 35 Tryz.func4 ?_;refine cw [0,1,2] ?_;refine zN 7 ?_;refine vv (v:=.agg #[D 1,D 0,D 0,D 0,D 0,D 0,D 0,D 0,D 0,D 0,D 0]) iE ?_;refine vv (v:=.agg #[D 1,D 1,D 1,D 0,D 0,D 0,D 0,D 0,D 0,D 0,D 0]) iE ?_;refine uL (V:=λb=>.slice (some ⟨b,0,none⟩) 2 2) (row:=(mks.flatMap Ac.cells).toArray) (t:=55) (n:=2) (s:=11) (xs:=mks.flatMap Ac.cells) S (wn E) E E (bq (vs:=[(0,.agg #[D 1,D 0,D 0,D 0,D 0,D 0,D 0,D 0,D 0,D 0,D 0]),(1,.agg #[D 1,D 1,D 1,D 0,D 0,D 0,D 0,D 0,D 0,D 0,D 0])]) E lS kQ) E dQ E ?_;intro b1 w2 S3;refine zN 10 ?_;refine fV (X:=Nat×(Option Addr)×Nat) (λJ=>[(0,.slice A gs.length c),(1,D (m:Int)),(2,.bool cr),(6,.slice none 0 0),(7,.slice J.2.1 (2+J.1) J.2.2),(8,D (J.1:Int))]) (λJ wr=>(J.1<=gs.length)/\(J.1<=m)/\St w.heap.size w wr [.own 55 11 (.slice J.2.1 (2+J.1) J.2.2) (2+J.1) ((bE gs J.1 cr).flatMap Ac.cells),.rd 5 A gs.length ((gs).flatMap Gr.cells)]) (λJ=>gs.length-J.1) (0,(some ⟨b1,0,none⟩),2) ?_ ?_ ?_
 ·exact⟨aC _,aC _,S3⟩
 ·exact vD
 rintro⟨k,Ab,cb⟩ w4 ⟨hi6,hi7,O⟩
 try dsimp only at hi6 hi7 O
 refine bK (l':=[(0,.slice A gs.length c),(1,D (m:Int)),(2,.bool cr),(6,.slice none 0 0),(7,.slice Ab (2+k) cb),(8,D (k:Int))]) vD (aX (aX (aH (vm ?_))));refine zQ ?_;refine vv (v:=D (gs.length:Int)) (lg (vs:=[.slice A gs.length c]) E tU1 λ_=>PO E underlying22) ?_;by_cases h8:(k:Int)< (gs.length:Int)
 ·refine zN 4 ?_;by_cases h9:(k:Int)< (m:Int)
  ·refine zN 13 ?_;obtain⟨b10,o11,rfl⟩:=Rd.addr (St.rd 1 O E) Y;obtain⟨I,M⟩:=GX k (St.rd 1 O E) Y;refine vv (v:=.pointer (some ⟨b10,o11+k*5,none⟩)) (aQ E E E (jD k underlying22 kQ Y Y)) ?_;refine vv (ay E E (eZ (cs:=Gr.cells I) (Rd.Al (St.rd 1 O E) (λ_ _ h=>dw (enc:=Gr.cells) (sz:=5) (λ_=>E) M h)))) ?_;refine zQ ?_;refine Vm eQ O (af7 (hg _ (jm M)) cr _) ?_;intro OE ku;refine iL ku alh ?_;intro b17 Qi xK;refine sa 0 xK kQ ?_;intro w20 yj;refine zN 5 ?_;refine Wp yj ?_;intro b22 Oz Z;refine eu (news:=[D ((iy I cr).kd),D ((iy I cr).nd),D ((iy I cr).qu),D ((iy I cr).at_),D ((iy I cr).kp),D ((iy I cr).ek),D ((iy I cr).ep),D ((iy I cr).ei),D ((iy I cr).eb),D ((iy I cr).eh),D ((iy I cr).en)]) (xs':=(bE gs (k+1) cr).flatMap Ac.cells) 2 Z (wn E) E E E E E E (St.nO (xs:=[D ((iy I cr).kd),D ((iy I cr).nd),D ((iy I cr).qu),D ((iy I cr).at_),D ((iy I cr).kp),D ((iy I cr).ek),D ((iy I cr).ep),D ((iy I cr).ei),D ((iy I cr).eb),D ((iy I cr).eh),D ((iy I cr).en)]) 0 Z E E E) underlying23 Jf E dQ (dh E) lQ Y (jV (enc:=Ac.cells) (YP M).symm E) ?_;intro A25 c26 Rs hc29 aD9 wm;refine zN 6 ?_;refine vv (v:=D ((k+1:Nat):Int)) jB ?_;refine zN 2 ?_;have tN:=wm.bg [1,0];refine bQ (k+1,A25,c26) ?_ vD (by first|omega|(dsimp only;omega));exact⟨uQ,uQ,tN⟩
  refine zN 18 ?_;have uh:=O.bg [1];rw[show bE gs m cr=bE gs k cr from(OU Y Y Y).symm,OV Y];exact⟨Ab,cb,E,uh⟩
 refine zN 22 ?_;have yS:=O.bg [1];rw[show bE gs m cr=bE gs k cr from(OU Y Y Y).symm,OV Y];exact⟨Ab,cb,E,yS⟩
def abK{l:List Ac}{A:Option Addr}{c r:Nat}(hr:r<=100000)(hl:l.length<=100000)(w:World)(h:Rd w w.heap.size 11 A l.length (l.flatMap Ac.cells)):
 Calls prog 5 #[.slice A l.length c,D (r:Int)] w (λe w'=> ∃A' c',e=.returned (.slice A' ((kS l r).length) c')/\St w.heap.size w w' [.own 55 11 (.slice A' ((kS l r).length) c') ((kS l r).length) ((kS l r).flatMap Ac.cells)]):=by
 have S:=(St.start w).dG h;refine iW 39 func5 ?_;refine cw [0,1] ?_;refine zN 6 ?_;have S1:=S.nil 55 11;refine zN 2 ?_;refine eu (news:=(l).flatMap Ac.cells) (xs':=(l).flatMap Ac.cells) 0 S1 (wn E) E E E E E E (St.rd 1 S1 E) underlying23 Jf E dQ (akl _) lQ Y iQ ?_;intro A2 c3 w4 hc6 hm7 S5;refine zN 10 ?_;refine fV (X:=Nat×Nat×(Option Addr)×Nat) (λI=>[(1,D (r:Int)),(4,.slice none 0 0),(5,.slice I.2.2.1 I.2.1 I.2.2.2),(6,D (I.1:Int))]) (λI wr=>(I.1<=5)/\(I.2.1=l.length+I.1)/\St w.heap.size w wr [.own 55 11 (.slice I.2.2.1 I.2.1 I.2.2.2) I.2.1 ((l++starts I.1).flatMap Ac.cells),.rd 11 A l.length ((l).flatMap Ac.cells)]) (λI=>5-I.1) (0,0+l.length,A2,c3) ?_ ?_ ?_
 ·exact⟨aC _,by dsimp only;omega,by dsimp only;rw[show l++starts 0=l from bI l];exact S5⟩
 ·exact lS
 rintro⟨k,nb,Ab,J⟩ w8 ⟨Z,Px,S9⟩
 try dsimp only at Z Px S9
 refine bK (l':=[(1,D (r:Int)),(4,.slice none 0 0),(5,.slice Ab nb J),(6,D (k:Int))]) lS (aX (aX (aH (vm ?_))));by_cases h12:(k:Int)<5
 ·refine zN 11 ?_;refine vv (v:=.agg #[D 9,D (k:Int),D 0,D 0,D 0,D 0,D 0,D 0,D 0,D 0,D 0]) iE ?_;refine Wp S9 ?_;intro b13 OE ku;refine eu (news:=[D 9,D (k:Int),D 0,D 0,D 0,D 0,D 0,D 0,D 0,D 0,D 0]) (xs':=(l++starts (k+1)).flatMap Ac.cells) 1 ku (wn E) E E E E E E (St.nO (xs:=[D 9,D (k:Int),D 0,D 0,D 0,D 0,D 0,D 0,D 0,D 0,D 0]) 0 ku E E E) underlying23 Jf E dQ (dh E) lQ Y (jV (enc:=Ac.cells) (by rw[K3,gq]) E) ?_;intro A16 c17 Qi axv axw xK;refine zN 6 ?_;refine vv (v:=D ((k+1:Nat):Int)) jB ?_;refine zN 2 ?_;have lY:=xK.bg [0];refine bQ (k+1,nb+1,A16,c17) ?_ lS (by first|omega|(dsimp only;omega));exact⟨uQ,uQ,lY⟩
 refine zN 16 ?_;obtain rfl:k=5:=Y;refine fV (X:=Nat×Nat×(Option Addr)×Nat) (λI=>[(1,D (r:Int)),(4,.slice none 0 0),(5,.slice I.2.2.1 I.2.1 I.2.2.2),(7,D (I.1:Int))]) (λI wr=>(I.1<=r)/\(I.2.1=l.length+5+6*I.1)/\St w.heap.size w wr [.own 55 11 (.slice I.2.2.1 I.2.1 I.2.2.2) I.2.1 ((l++starts 5++AY I.1).flatMap Ac.cells),.rd 11 A l.length ((l).flatMap Ac.cells)]) (λI=>r-I.1) (0,nb,Ab,J) ?_ ?_ ?_
 ·exact⟨aC _,by dsimp only;omega,by dsimp only;rw[show l++starts 5++AY 0=l++starts 5 from bI _];exact S9⟩
 ·exact lS
 rintro⟨i,nb,Ab,J⟩ Oz ⟨aFX,aFY,M⟩
 try dsimp only at aFX aFY M
 refine bK (l':=[(1,D (r:Int)),(4,.slice none 0 0),(5,.slice Ab nb J),(7,D (i:Int))]) lS (aX (aX (aH (vm ?_))));refine zQ ?_;by_cases h27:(i:Int)< (r:Int)
 ·refine zN 15 ?_;refine fV (X:=Nat×Nat×(Option Addr)×Nat) (λI=>[(1,D (r:Int)),(4,.slice none 0 0),(7,D (i:Int)),(5,.slice I.2.2.1 I.2.1 I.2.2.2),(8,D (I.1:Int))]) (λI wr=>(I.1<=5)/\(I.2.1=l.length+5+6*i+I.1)/\St w.heap.size w wr [.own 55 11 (.slice I.2.2.1 I.2.1 I.2.2.2) I.2.1 ((l++starts 5++AY i++steps I.1).flatMap Ac.cells),.rd 11 A l.length ((l).flatMap Ac.cells)]) (λI=>5-I.1) (0,nb,Ab,J) ?_ ?_ ?_
  ·exact⟨aC _,by dsimp only;omega,by dsimp only;rw[show l++starts 5++AY i++steps 0=l++starts 5++AY i from bI _];exact M⟩
  ·exact Dc
  rintro⟨j,nb,Ab,J⟩ w28 ⟨aFZ,af8,O⟩
  try dsimp only at aFZ af8 O
  refine bK (l':=[(1,D (r:Int)),(4,.slice none 0 0),(7,D (i:Int)),(5,.slice Ab nb J),(8,D (j:Int))]) Dc (aX (aX (aH (vm ?_))));by_cases h32:(j:Int)<5
  ·refine zN 11 ?_;refine vv (v:=.agg #[D 3,D (j:Int),D 0,D 0,D 0,D 0,D 0,D 0,D 0,D 0,D 0]) iE ?_;refine Wp O ?_;intro b33 w34 Gc;refine eu (news:=[D 3,D (j:Int),D 0,D 0,D 0,D 0,D 0,D 0,D 0,D 0,D 0]) (xs':=(l++starts 5++AY i++steps (j+1)).flatMap Ac.cells) 1 Gc (wn E) E E E E E E (St.nO (xs:=[D 3,D (j:Int),D 0,D 0,D 0,D 0,D 0,D 0,D 0,D 0,D 0]) 0 Gc E E E) underlying23 Jf E dQ (dh E) lQ Y (jV (enc:=Ac.cells) (by rw[OW,gq]) E) ?_;intro A36 c37 w38 aEa aEb Ey;refine zN 6 ?_;refine vv (v:=D ((j+1:Nat):Int)) jB ?_;refine zN 2 ?_;have Hr:=Ey.bg [0];refine bQ (j+1,nb+1,A36,c37) ?_ Dc (by first|omega|(dsimp only;omega));exact⟨uQ,uQ,Hr⟩
  refine zN 9 ?_;obtain rfl:j=5:=Y;refine zN 2 ?_;refine vv (v:=.agg #[D 7,D 0,D 0,D 0,D 0,D 0,D 0,D 0,D 0,D 0,D 0]) iE ?_;refine Wp O ?_;intro b43 U4 tO;refine eu (news:=[D 7,D 0,D 0,D 0,D 0,D 0,D 0,D 0,D 0,D 0,D 0]) (xs':=(l++starts 5++AY (i+1)).flatMap Ac.cells) 1 tO (wn E) E E E E E E (St.nO (xs:=[D 7,D 0,D 0,D 0,D 0,D 0,D 0,D 0,D 0,D 0,D 0]) 0 tO E E E) underlying23 Jf E dQ (dh E) lQ Y (jV (enc:=Ac.cells) (x:=Qo 7 0) (by rw[EO];simp only[append_assoc]) E) ?_;intro A46 WV Zf aOp aOq yT;refine zN 6 ?_;refine vv (v:=D ((i+1:Nat):Int)) jB ?_;refine zN 2 ?_;have rH:=yT.bg [0];refine bQ (i+1,nb+1,A46,WV) ?_ lS (by first|omega|(dsimp only;omega));exact⟨uQ,uQ,rH⟩
 refine zN 17 ?_;have Az:=M.bg [1];obtain rfl:i=r:=Y;rw[NK,show l.length+5+6*i=nb by omega];exact⟨Ab,J,E,Az⟩
open Au
def adi{α β:Type}{R:α->β->Prop}{r:β}:∀ {l:List α} {m j:Nat} {u:α},fI R l (replicate m r)->l[j]? =some u->R u r
 |_::_,_+1,0,_,h,I=>by cases I;exact h.1
 |_::l,m+1,j+1,_,h,I=>adi (l:=l) (m:=m) h.2 I
 |[],_,_,_,_,I=>by simp at I
def wf_i64{x:Int}(h:(Lit.int .i64 x).wf=true):OT x:=by
 have h1:IntKind.i64.min= -9223372036854775808:=by decide
 have I:IntKind.i64.max=9223372036854775807:=by decide
 unfold OT;simp only[Lit.wf,h1,I,Bool.and_eq_true,decide_eq_true_eq]at h;exact h
def aoR{α:Type}[Au α]{W:World}{v:Value}{b:Nat}(h:Fits W v (.sl b (replicate (size α) (.int .i64)))){A:Option Addr}{n c:Nat}{l:List α}(hv:v=.slice A n c)(O:Rd W W.heap.size (size α) A n (iO l)):∀x∈l,∀y∈UA x,OT y:=by
 intro x hx y hy;obtain⟨k,Z⟩:=bS.1 hx;obtain⟨j,hj⟩:=bS.1 hy;have J:k<n:=by rw[<-O.LA];exact(cK.1 Z).1
 obtain⟨bb,off,a,rfl,_,ha,hc⟩:=O.ahM J;rw[Z]at ha
 cases ha;have h1:=hc j y hj;have hjs:j<size α:=by rw[<-len x];exact(cK.1 hj).1
 rcases h with h|⟨ad,n',c',h,_,_,_,I⟩
 ·rw[hv]at h;cases h
 rw[hv]at h
 cases h;obtain⟨cs,h2,_,h3⟩:=I k J;have hl:=h2.len;rw[acD]at hl;have hu:cs[j]? =some (cs[j]'Y):=dJ Y;have M:=h3 j _ hu;rw[acD,Go.WideShapes.add_plain,h1]at M;obtain⟨z,hz,hw⟩:=adi h2 hu;rw[hz]at M
 cases M;exact wf_i64 hw
instance:Au Gr where
 size:=5
 UA x:=[x.kd,x.a,x.b,x.c,x.d]
 of l:=⟨l.getD 0 0,l.getD 1 0,l.getD 2 0,l.getD 3 0,l.getD 4 0⟩
 pos:=Y
 len _:=rfl
 inv xs h:=by
  match xs,h with
  |[a,b,c,d,e],_=>rfl
def akm:flat prog 30 22=some [.sl 40 (replicate 5 (.int .i64))]:=kQ
def af9{W:World}{v:Value}(h:Uw prog W v 22):∃A c,∃l:List Gr,v=.slice A l.length c/\Rd W W.heap.size 5 A l.length (l.flatMap Gr.cells)/\ ∀g∈l,g.ok:=by
 obtain⟨⟨base,O⟩,l,M,Z⟩:=h;rw[akm]at M
 cases M;obtain⟨A,n,c,rfl⟩:=okWide_slice underlying22 O;obtain⟨a,l1,e,h1,_⟩:=fI.yZ Z;simp[Value.cells]at e;obtain⟨rfl,_⟩:=e;obtain⟨A',n',c',l,e,J,hn,hc,hb,h0⟩:=aer (α:=Gr) h1;have hw:=aoR (α:=Gr) h1 e J;simp only[Value.slice.injEq]at e;obtain⟨rfl,rfl,rfl⟩:=e;have I:l.length=n:=Rd.LA (α:=Gr) J;subst I;refine⟨A,c,l,E,J,λg hg=>?_⟩;have h:=hw g hg;exact⟨h _ (by simp[UA]),h _ (by simp[UA]),h _ (by simp[UA]),h _ (by simp[UA]),h _ (by simp[UA])⟩
end
def M5(a:Ac):Nat:=if a.kd=1\/a.kd=2\/a.kd=6\/a.kd=10\/a.kd=8 then 20 else 0
def qB:List Ac->Nat
 |[]=>200
 |a::l=>qB l+M5 a
def adk:∀(l:List Ac) (a:Ac),qB (l++[a])=qB l+M5 a
 |[],a=>rfl
 |b::l,a=>by rw[wO,qB,qB,adk l a];omega
def Sj:∀(l:List Ac),qB l<=200+20*l.length
 |[]=>aB
 |a::l=>by
  have h:=Sj l;have:M5 a<=20:=by unfold M5;split<;>omega
  rw[qB,mO];omega
def zX{l:List Ac}{k:Nat}{a:Ac}(h:l[k]? =some a):qB (l.take (k+1))=qB (l.take k)+M5 a:=by
 rw[mQ,h];exact adk _ _
def P8{a:Ac}(h:a.kd=1\/a.kd=2\/a.kd=6\/a.kd=10\/a.kd=8):M5 a=20:=aj h
def P9{a:Ac}(h:¬(a.kd=1\/a.kd=2\/a.kd=6\/a.kd=10\/a.kd=8)):M5 a=0:=ah h
def Jz{l:List Ac}{A:Option Addr}{c:Nat}(hl:l.length<=100000)(w:World)(h:Rd w w.heap.size 11 A l.length (l.flatMap Ac.cells)):
 Calls prog 6 #[.slice A l.length c] w (λe w'=>e=.returned (.int .i64 ((qB l:Nat):Int))/\Below w.heap.size w w'):=by
 have S:=(St.start w).dG h;refine iW 25 Tryz.func6 ?_;refine cw [0] ?_;refine zN 17 ?_;refine fV (X:=Nat×Nat) (λJ=>[(0,.slice A l.length c),(2,.int .i64 0),(3,.int .i64 (J.2:Int)),(4,.int .i64 (J.1:Int))]) (λJ wr=>(J.1<=l.length)/\(J.2=qB (l.take J.1))/\St w.heap.size w wr [.rd 11 A l.length ((l).flatMap Ac.cells)]) (λJ=>l.length-J.1) (0,200) ?_ ?_ ?_
 ·exact⟨aC _,E,S⟩
 ·exact lS
 rintro⟨k,n⟩ w1 ⟨Z,M,S2⟩
 try dsimp only at Z M S2
 refine bK (l':=[(0,.slice A l.length c),(2,.int .i64 0),(3,.int .i64 (n:Int)),(4,.int .i64 (k:Int))]) lS (aX (aX (aH (vm ?_))));refine zN 2 ?_;by_cases h5:(k:Int)< (l.length:Int)
 ·refine zN 9 ?_;have hle:=Sj (l.take k);have hlt:(l.take k).length<=100000:=by rw[dV];omega
  refine zN 3 ?_;obtain⟨b6,o7,rfl⟩:=Rd.addr (St.rd 0 S2 E) Y;obtain⟨O,I⟩:=GX k (St.rd 0 S2 E) Y;refine vv (mY k) ?_;refine zQ ?_;refine vv (ay E E (aV (Rd.Qg (i:=0) (St.rd 0 S2 E) (dw (enc:=Ac.cells) (sz:=11) (λ_=>E) I E)))) ?_;refine zN 6 ?_;by_cases h10:O.kd=1
  ·refine zN 10 ?_;refine vv (v:=.int .i64 ((n+20:Nat):Int)) jB ?_;refine zN 7 ?_;refine vv (v:=.int .i64 ((k+1:Nat):Int)) jB ?_;refine zN 2 ?_;refine bQ (k+1,n+20) ?_ lS (by first|omega|(dsimp only;omega));exact⟨uQ,(by dsimp only;rw[zX I];first|rw[P8 Y];omega|rw[P9 Y];omega),S2⟩
  refine zN 7 ?_;by_cases h11:O.kd=2
  ·refine zN 10 ?_;refine vv (v:=.int .i64 ((n+20:Nat):Int)) jB ?_;refine zN 7 ?_;refine vv (v:=.int .i64 ((k+1:Nat):Int)) jB ?_;refine zN 2 ?_;refine bQ (k+1,n+20) ?_ lS (by first|omega|(dsimp only;omega));exact⟨uQ,(by dsimp only;rw[zX I];first|rw[P8 Y];omega|rw[P9 Y];omega),S2⟩
  refine zN 7 ?_;by_cases h12:O.kd=6
  ·refine zN 10 ?_;refine vv (v:=.int .i64 ((n+20:Nat):Int)) jB ?_;refine zN 7 ?_;refine vv (v:=.int .i64 ((k+1:Nat):Int)) jB ?_;refine zN 2 ?_;refine bQ (k+1,n+20) ?_ lS (by first|omega|(dsimp only;omega));exact⟨uQ,(by dsimp only;rw[zX I];first|rw[P8 Y];omega|rw[P9 Y];omega),S2⟩
  refine zN 7 ?_;by_cases h13:O.kd=10
  ·refine zN 10 ?_;refine vv (v:=.int .i64 ((n+20:Nat):Int)) jB ?_;refine zN 7 ?_;refine vv (v:=.int .i64 ((k+1:Nat):Int)) jB ?_;refine zN 2 ?_;refine bQ (k+1,n+20) ?_ lS (by first|omega|(dsimp only;omega));exact⟨uQ,(by dsimp only;rw[zX I];first|rw[P8 Y];omega|rw[P9 Y];omega),S2⟩
  refine zN 6 ?_;by_cases h14:O.kd=8
  ·refine zN 7 ?_;refine vv (v:=.int .i64 ((n+20:Nat):Int)) jB ?_;refine zN 7 ?_;refine vv (v:=.int .i64 ((k+1:Nat):Int)) jB ?_;refine zN 2 ?_;refine bQ (k+1,n+20) ?_ lS (by first|omega|(dsimp only;omega));exact⟨uQ,(by dsimp only;rw[zX I];first|rw[P8 Y];omega|rw[P9 Y];omega),S2⟩
  refine zN 11 ?_;refine vv (v:=.int .i64 ((k+1:Nat):Int)) jB ?_;refine zN 2 ?_;refine bQ (k+1,n) ?_ lS (by first|omega|(dsimp only;omega));exact⟨uQ,(by dsimp only;rw[zX I];first|rw[P8 Y];omega|rw[P9 Y];omega),S2⟩
 refine zN 17 ?_;rw[show n=qB l by rw[M,jE Y]];exact⟨E,S2.QM⟩
end Go.Proofs.YtceeleolddkibaaGreatDoor
