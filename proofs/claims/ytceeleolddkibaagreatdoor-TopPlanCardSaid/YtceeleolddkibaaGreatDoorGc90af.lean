import Derived.Test.YtceeleolddkibaaGreatDoorG701e8
import Derived.Test.YtceeleolddkibaaGreatDoorGf4ad5
set_option linter.all false
set_option maxRecDepth 100000
set_option maxHeartbeats 8000000
namespace Go.Proofs.YtceeleolddkibaaGreatDoor
open List Nat Go.Proofs.Tryz ChangeShapes WideShapes RowKit
def au0:iZ 42 (.agg #[D 0,D 0,D 0]) 3 24:=kQ
def au1:iZ 49 (.agg #[D 0,D 0,D 0]) 3 24:=kQ
def az4:fA 42 0 0:=λ_ _ _=>kQ
def aqk:fA 42 1 1:=λ_ _ _=>kQ
def Z4:fA 42 2 2:=λ_ _ _=>kQ
section
variable {l:List Ld}{nodes moves ep nx gv p:Int}{rs:List iK}{ls:List Ls}{W:mq}
def aoA(h:¬jo l nodes=0):LG l nodes moves=([],jo l nodes):=aj h
def RQ(h:jo l nodes=0)(I:¬(0<=moves/\moves<=4)):LG l nodes moves=([],2):=by unfold LG;rw[ah (by simp[h]),aj I]
def aib{m I:Nat}{out:List rz}(h:jo l (m:Int)=0)(M:(I:Int)<=4)(J:sH m I l (λ_=>false)=out):LG l (m:Int) (I:Int)=(out,0):=by
 unfold LG;rw[ah (by simp[h]),ah (by omega),dW,dW,J]
def au2{m:Nat}{now:List Ld}(h:FL m now): -4294967296<=xH m now/\xH m now<=4294967296:=by
 have hw:∀x∈now,0<=x.work/\x.work<=1073741824:=λx I=>(h.each x I).1;have M:=h.len;have h1:=zL hw (qz m now) now.length aB;have J:=zL hw (oI m now) now.length aB;rw[jy]at h1 J;unfold xH;omega
def aoB{m:Nat}{now:List Ld}(h:0<m):qz m now<m:=Aw _ _ h
def ac9{m:Nat}{now:List Ld}(h:0<m):oI m now<m:=BK _ _ h
def aej(A:Option Addr)(c:Nat)(l:List Ld)(nodes moves:Int)(w:World)(h:Rd w w.heap.size 3 A l.length (l.flatMap Ld.cells))(hm:l.length<=maxLen):
 Calls prog 9 #[.slice A l.length c,D nodes,D moves] w (aom w (LG l nodes moves)):=by
 have S:=(St.start w).dG h;refine iW 119 func9 ?_;refine cw [0,1,2] ?_;refine zN 6 ?_;refine ajn ?_;refine zN 5 ?_;refine Vm eQ S (afZ A l.length c l nodes _ (St.rd 0 S E) hm) ?_;intro w1 S2;refine zN 6 ?_;by_cases h0:jo l nodes=0
 ·obtain⟨hn1,hn5,hlo⟩:=adg h0;have HN:=FL.start hlo hn1;have hl4:=HN.len;obtain⟨m,hmn⟩:∃m:Nat,nodes=(m:Int):=⟨nodes.toNat,by omega⟩;subst hmn;rw[dW]at HN;refine zN 8 ?_;by_cases hmv:0<=moves/\moves<=4
  ·obtain⟨mv,hmq⟩:∃q:Nat,moves=(q:Int):=⟨moves.toNat,by omega⟩;subst hmq;refine zN 13 ?_;have S4:=S2.nil 42 3;change St _ _ _ [.own 42 3 (.slice none 0 0) 0 ((([]:List Ld)).flatMap Ld.cells),_]at S4;refine zN 2 ?_;refine eu (news:=(l).flatMap Ld.cells) (xs':=(l).flatMap Ld.cells) 0 S4 (wn E) E E E E E E (St.rd 1 S4 E) underlying43 au0 E (by decide) (aol _) (by simp only[maxLen];omega) (by omega) (by simp) ?_;intro A5 c6 w7 hc9 aNT S8;change St _ _ _ [.own 42 3 (.slice A5 (0+l.length) c6) (0+l.length) ((l).flatMap Ld.cells),_]at S8;refine zN 4 ?_;have hz0:0+l.length=l.length:=fq _;rw[hz0]at S8⊢;refine zN 2 ?_;refine vv (v:=D (l.length:Int)) (lg (vs:=[.slice A5 l.length c6]) E ⟨E,trivial⟩ λ_=>PO E underlying43) ?_;refine mE (V:=λb=>.slice (some ⟨b,0,none⟩) l.length l.length) (row:=sI (λ_=>false) l.length) (t:=4) S8 (wn E) E E (Ed E E E (abn l.length (by omega) _)) ?_;intro O w12 Rw;refine zN 9 ?_;refine aiX (iY (aX (aX (aH (vm ?_)))));refine zN 4 ?_;have oJ:=Rw.nil 49 3;change St _ _ _ [.own 49 3 (.slice none 0 0) 0 ((([]:List rz)).flatMap rz.cells),_,_,_]at oJ;have ku:St w.heap.size w w12 [_,_,_,_]:=oJ.re [0,2,1,3] (by decide);refine fV (X:=Nat×(List Ld)×(Nat->Bool)×(List rz)×(Option Addr)×Nat×(Option Addr)×Nat) (λI=>[(1,D (m:Int)),(6,.slice none 0 0),(7,D 0),(10,.slice (some ⟨O,0,none⟩) l.length l.length),(35,D (mv:Int)),(9,.slice I.2.2.2.2.1 l.length I.2.2.2.2.2.1),(11,.slice I.2.2.2.2.2.2.1 I.1 I.2.2.2.2.2.2.2),(36,D (I.1:Int))]) (λI wr=>(I.1<=mv)/\(sH m mv l (λ_=>false)=I.2.2.2.1++sH m (mv-I.1) I.2.1 I.2.2.1)/\(FL m I.2.1)/\(I.2.1.length=l.length)/\(I.2.2.2.1.length=I.1)/\St w.heap.size w wr [.own 49 3 (.slice I.2.2.2.2.2.2.1 I.1 I.2.2.2.2.2.2.2) I.1 ((I.2.2.2.1).flatMap rz.cells),.own 42 3 (.slice I.2.2.2.2.1 l.length I.2.2.2.2.2.1) l.length ((I.2.1).flatMap Ld.cells),.Pj O (sI I.2.2.1 l.length) 4,.rd 3 A l.length ((l).flatMap Ld.cells)]) (λI=>mv-I.1) (0,l,λ_=>false,[],A5,c6,none,0) ?_ ?_ ?_
   ·exact⟨aC _,E,HN,E,E,ku⟩
   ·exact⟨E,E,E,E,E,E,E,E,trivial⟩
   rintro⟨Z,now,gone,RS,A1,c1,A3,c3⟩ w16 ⟨aEH,alG,alx,hi21,hi22,zi⟩
   try dsimp only at aEH alG alx hi21 hi22 zi
   refine bK (l':=[(1,D (m:Int)),(6,.slice none 0 0),(7,D 0),(10,.slice (some ⟨O,0,none⟩) l.length l.length),(35,D (mv:Int)),(9,.slice A1 l.length c1),(11,.slice A3 Z c3),(36,D (Z:Int))]) ⟨E,E,E,E,E,E,E,E,trivial⟩ ?_;have V4:=alx;have hn4:=V4.len;refine zN 2 ?_;by_cases h23:(Z:Int)< (mv:Int)
   ·refine zN 13 ?_;refine eB eQ (aaX A1 l.length c1 m now _ (St.Vj 1 zi E) hl4 (by omega) (by omega) (λx hx=>⟨(V4.each x hx).1.1,(V4.each x hx).1.2,(V4.each x hx).2.1.1,(V4.each x hx).2.1.2⟩)) ?_;rintro _ w25 ⟨Zh,rfl,aEI,aEJ,axl⟩;refine⟨_,E,?_⟩;have uE:=zi.az2 aEI aEJ axl;refine zN 6 ?_;refine DF (wn E) E E (jK (vs:=[.slice (some ⟨Zh,0,none⟩) m m]) E eQ ⟨E,trivial⟩) (aaW Zh m m (λj=>kr now j) _ (λj hj=>St.cl 0 uE E (xG _ hj)) (by omega) (by omega)) ?_;rintro _ Za ⟨rfl,rfl⟩;refine⟨_,E,?_⟩;refine zN 16 ?_;refine vv (v:=D (l.length:Int)) (lg (vs:=[.slice A1 l.length c1]) E ⟨E,trivial⟩ λ_=>PO E underlying43) ?_;refine zN 4 ?_;have hgp:=au2 V4;have hfl:=aoB (now:=now) (m:=m) (by omega);have htl:=ac9 (now:=now) (m:=m) (by omega);refine fV (X:=Nat×(Option Nat)) (λI=>[(1,D (m:Int)),(6,.slice none 0 0),(7,D 0),(10,.slice (some ⟨O,0,none⟩) l.length l.length),(35,D (mv:Int)),(9,.slice A1 l.length c1),(11,.slice A3 Z c3),(36,D (Z:Int)),(12,.slice (some ⟨Zh,0,none⟩) m m),(13,D ((qz m now:Nat):Int)),(14,D ((oI m now:Nat):Int)),(46,.slice A1 l.length c1),(47,D (l.length:Int)),(15,D (acM I.2)),(48,D (I.1:Int))]) (λI wr=>(I.1<=l.length)/\(kW (wants now gone (qz m now) (xH m now)) (Fe now) I.1=I.2)/\St w.heap.size w wr [.Pj Zh (uY (λj=>kr now j) m) 3,.own 49 3 (.slice A3 Z c3) Z ((RS).flatMap rz.cells),.own 42 3 (.slice A1 l.length c1) l.length ((now).flatMap Ld.cells),.Pj O (sI gone l.length) 4,.rd 3 A l.length ((l).flatMap Ld.cells)]) (λI=>l.length-I.1) (0,none) ?_ ?_ ?_
    ·exact⟨aC _,E,uE⟩
    ·exact⟨E,E,E,E,E,E,E,E,E,E,E,E,E,E,E,trivial⟩
    rintro⟨i,bs⟩ w31 ⟨Iw,J,uh⟩
    try dsimp only at Iw J uh
    refine bK (l':=[(1,D (m:Int)),(6,.slice none 0 0),(7,D 0),(10,.slice (some ⟨O,0,none⟩) l.length l.length),(35,D (mv:Int)),(9,.slice A1 l.length c1),(11,.slice A3 Z c3),(36,D (Z:Int)),(12,.slice (some ⟨Zh,0,none⟩) m m),(13,D ((qz m now:Nat):Int)),(14,D ((oI m now:Nat):Int)),(46,.slice A1 l.length c1),(47,D (l.length:Int)),(15,D (acM bs)),(48,D (i:Int))]) ⟨E,E,E,E,E,E,E,E,E,E,E,E,E,E,E,trivial⟩ (aX (aH ?_));by_cases h35:(i:Int)< (l.length:Int)
    ·refine zN 12 ?_;obtain⟨g36,rfl⟩:=zO (uh.own 2 E) (by omega);obtain⟨WE,hx38⟩:=GX i (St.Vj 2 uh E) (by omega);refine vv (v:=.pointer (some ⟨g36,0+i*3,none⟩)) (aQ E E E (jD i underlying43 kQ (by omega) (by omega))) ?_;refine vv (ay E E (Gm (cs:=Ld.cells WE) underlying42 E kQ E (Rd.Al (St.Vj 2 uh E) (λ_ _ h=>dw (enc:=Ld.cells) (sz:=3) (λ_=>E) hx38 h)))) ?_;refine mE (V:=λb=>pV b 0) (row:= #[D 0,D 0,D 0]) (t:=42) uh (wn E) E E (jJ E (zeroValue42 _) E) ?_;intro b39 w40 J5;refine zQ ?_;refine sa 0 J5 kQ ?_;intro WG vU;refine zN 3 ?_;have hwx:=ajK (gone:=gone) (fr:=qz m now) (gap:=xH m now) hx38;refine zQ ?_;refine iN vU mixed (by kernel_rfl) ?_;refine zN 2 ?_;refine uv (v:=pV O i) (λ_ _=>(aQ E E E (IB i Tryz.underlying67 kQ (by rfl) (by omega)))) ?_;refine uv (v:=.bool (gone i)) (λ_ arU=>(ay E E (qO underlying4 E (St.cl 4 arU E (aeF gone (by omega)))))) ?_;refine zQ ?_
     cases aNU:(gone i)
     ·refine ug (v:=pV b39 1) (λ_ _=>rV _ aqk) ?_;refine zN 2 ?_;by_cases h53:WE.node=((qz m now:Nat):Int)
      ·refine zN 3 ?_;refine ug (v:=pV b39 2) (λ_ _=>rV _ Z4) ?_;refine zQ ?_;by_cases h59:WE.work=0
       ·refine zN 16 ?_;refine iw λw64 Hu=>?_;refine zN 7 ?_;refine vv (v:=D ((i+1:Nat):Int)) jB ?_;refine zN 2 ?_;have Jq:=Hu.bg [0];refine bQ (i+1,bs) ?_ ⟨E,E,E,E,E,E,E,E,E,E,E,E,E,E,E,trivial⟩ (by first|omega|(dsimp only;omega));exact⟨(by dsimp only;omega),(by dsimp only;exact(ED (by rw[hwx];first|(simp[*];done)|(simp[*];omega))).trans J),Jq⟩
       refine zN 3 ?_;refine ug (v:=pV b39 2) (λ_ _=>rV _ Z4) ?_;refine zN 3 ?_;refine ug (v:=.pointer (some ⟨Zh,qz m now,none⟩)) (λ_ _=>(aQ E E E (IB (qz m now) Tryz.underlying69 kQ (by rfl) hfl))) ?_;refine ug (v:=D (kr now ((qz m now:Nat):Int))) (λ_ aEK=>(ay E E (qO underlying3 E (St.cl 1 aEK E (xG _ (by exact hfl)))))) ?_;refine zN 2 ?_;refine ug (v:=.pointer (some ⟨Zh,oI m now,none⟩)) (λ_ _=>(aQ E E E (IB (oI m now) Tryz.underlying69 kQ (by rfl) htl))) ?_;refine ug (v:=D (kr now ((oI m now:Nat):Int))) (λ_ aEL=>(ay E E (qO underlying3 E (St.cl 1 aEL E (xG _ (by exact htl)))))) ?_;refine ug (v:=D (xH m now)) (λ_ _=>(cO E E E (apO E ⟨by show _<=xH m now;omega,by show xH m now<=_;omega⟩))) ?_;by_cases Ke:xH m now<=WE.work
       ·refine zN 2 ?_;refine iw λw84 Hw=>?_;refine zN 7 ?_;refine vv (v:=D ((i+1:Nat):Int)) jB ?_;refine zN 2 ?_;have CQ:=Hw.bg [0];refine bQ (i+1,bs) ?_ ⟨E,E,E,E,E,E,E,E,E,E,E,E,E,E,E,trivial⟩ (by first|omega|(dsimp only;omega));exact⟨(by dsimp only;omega),(by dsimp only;exact(ED (by rw[hwx];first|(simp[*];done)|(simp[*];omega))).trans J),CQ⟩
       refine zN 2 ?_;refine iw λw89 Vf=>?_;refine zN 4 ?_;have hc:wants now gone (qz m now) (xH m now) i=true:=by rw[hwx];simp[*];omega
       rcases bs with _|b
       ·refine bK (l':=[(1,D (m:Int)),(6,.slice none 0 0),(7,D 0),(10,.slice (some ⟨O,0,none⟩) l.length l.length),(35,D (mv:Int)),(9,.slice (some ⟨g36,0,none⟩) l.length c1),(11,.slice A3 Z c3),(36,D (Z:Int)),(12,.slice (some ⟨Zh,0,none⟩) m m),(13,D ((qz m now:Nat):Int)),(14,D ((oI m now:Nat):Int)),(46,.slice (some ⟨g36,0,none⟩) l.length c1),(47,D (l.length:Int)),(15,D (-1)),(48,D (i:Int)),(17,pV b39 0),(16,D (i:Int)),(81,.bool false)]) ⟨E,E,E,E,E,E,E,E,E,E,E,E,E,E,E,E,E,E,trivial⟩ (aX (iN Vf mixed (by kernel_rfl) ?_));refine zN 12 ?_;refine iw λw95 EG=>?_;refine zN 9 ?_;refine vv (v:=D ((i+1:Nat):Int)) jB ?_;refine zN 2 ?_;have Gb:=EG.bg [0];refine bQ (i+1,some i) ?_ ⟨E,E,E,E,E,E,E,E,E,E,E,E,E,E,E,trivial⟩ (by first|omega|(dsimp only;omega));exact⟨(by dsimp only;omega),(by dsimp only;exact abm hc J),Gb⟩
       have hbl:=afb J;have aNV:b<l.length:=by omega
       refine bK (l':=[(1,D (m:Int)),(6,.slice none 0 0),(7,D 0),(10,.slice (some ⟨O,0,none⟩) l.length l.length),(35,D (mv:Int)),(9,.slice (some ⟨g36,0,none⟩) l.length c1),(11,.slice A3 Z c3),(36,D (Z:Int)),(12,.slice (some ⟨Zh,0,none⟩) m m),(13,D ((qz m now:Nat):Int)),(14,D ((oI m now:Nat):Int)),(46,.slice (some ⟨g36,0,none⟩) l.length c1),(47,D (l.length:Int)),(15,D (b:Int)),(48,D (i:Int)),(17,pV b39 0),(16,D (i:Int)),(81,.bool false)]) ⟨E,E,E,E,E,E,E,E,E,E,E,E,E,E,E,E,E,E,trivial⟩ (aX (iN Vf mixed (by kernel_rfl) ?_));refine zN 3 ?_;refine ug (v:=pV b39 2) (λ_ _=>rV _ Z4) ?_;refine zN 3 ?_;obtain⟨x105,ahi⟩:=GX b (St.Vj 3 Vf E) (by omega);refine ug (v:=.pointer (some ⟨g36,0+b*3,none⟩)) (λ_ _=>(aQ E E E (jD b underlying43 kQ (by omega) (by omega)))) ?_;refine ug (v:=.pointer (some ⟨g36,0+b*3+2,none⟩)) (λ_ _=>rV _ Z4) ?_;refine ug (v:=D x105.work) (λ_ ahj=>(ay E E (qO underlying3 E (Rd.Qg (i:=2) (St.Vj 3 ahj E) (dw (enc:=Ld.cells) (sz:=3) (λ_=>E) ahi E))))) ?_;by_cases aNW:x105.work<WE.work
       ·refine zN 2 ?_;refine iw λalq EA=>?_;refine zN 9 ?_;refine vv (v:=D ((i+1:Nat):Int)) jB ?_;refine zN 2 ?_;have tF:=EA.bg [0];refine bQ (i+1,some i) ?_ ⟨E,E,E,E,E,E,E,E,E,E,E,E,E,E,E,trivial⟩ (by first|omega|(dsimp only;omega));exact⟨(by dsimp only;omega),(by dsimp only;exact Yu hc J (by rw[EC ahi,EC hx38];omega)),tF⟩
       refine zN 2 ?_;refine iw λalu yI=>?_;refine zN 6 ?_;refine vv (v:=D ((i+1:Nat):Int)) jB ?_;refine zN 2 ?_;have vR:=yI.bg [0];refine bQ (i+1,some b) ?_ ⟨E,E,E,E,E,E,E,E,E,E,E,E,E,E,E,trivial⟩ (by first|omega|(dsimp only;omega));exact⟨(by dsimp only;omega),(by dsimp only;exact Yv hc J (by rw[EC ahi,EC hx38];omega)),vR⟩
      refine zN 21 ?_;refine iw λZO C9=>?_;refine zN 7 ?_;refine vv (v:=D ((i+1:Nat):Int)) jB ?_;refine zN 2 ?_;have AL:=C9.bg [0];refine bQ (i+1,bs) ?_ ⟨E,E,E,E,E,E,E,E,E,E,E,E,E,E,E,trivial⟩ (by first|omega|(dsimp only;omega));exact⟨(by dsimp only;omega),(by dsimp only;exact(ED (by rw[hwx];first|(simp[*];done)|(simp[*];omega))).trans J),AL⟩
     refine zN 24 ?_;refine iw λarq Ka=>?_;refine zN 7 ?_;refine vv (v:=D ((i+1:Nat):Int)) jB ?_;refine zN 2 ?_;have EH:=Ka.bg [0];refine bQ (i+1,bs) ?_ ⟨E,E,E,E,E,E,E,E,E,E,E,E,E,E,E,trivial⟩ (by first|omega|(dsimp only;omega));exact⟨(by dsimp only;omega),(by dsimp only;exact(ED (by rw[hwx];first|(simp[*];done)|(simp[*];omega))).trans J),EH⟩
    refine zN 12 ?_;have hie:i=l.length:=by omega
    subst hie
    rcases bs with _|b
    ·have hbb:xk m now gone=none:=by unfold xk;rw[hi21];exact J
     refine bK (l':=[(1,D (m:Int)),(6,.slice none 0 0),(7,D 0),(10,.slice (some ⟨O,0,none⟩) l.length l.length),(35,D (mv:Int)),(9,.slice A1 l.length c1),(11,.slice A3 Z c3),(36,D (Z:Int)),(12,.slice (some ⟨Zh,0,none⟩) m m),(13,D ((qz m now:Nat):Int)),(14,D ((oI m now:Nat):Int)),(46,.slice A1 l.length c1),(47,D (l.length:Int)),(15,D (-1)),(49,.bool false)]) ⟨E,E,E,E,E,E,E,E,E,E,E,E,E,E,E,trivial⟩ (aH (vm ?_));refine zN 6 ?_;refine ad9 E (Ci (Ci (Ku (iY (aX (aH (vm ?_)))))));refine zN 5 ?_;refine uf ?_;refine zQ ?_;have Eu:=uh.bg [4,3,2,0];have EB:=Eu.bU 0 E;change St _ _ _ [.dB 3 A3 Z ((RS).flatMap rz.cells)]at EB;have hal:(LG l (m:Int) (mv:Int))=(RS,0):=aib h0 (by omega) (by rw[alG];rw[show mv-Z=mv-(Z+1)+1 from by omega,ajI hbb,bI]);rw[hal];have hol:RS.length=Z:=hi22;refine⟨A3,c3,?_,?_⟩
     · dsimp only;rw[hol];rfl
     · dsimp only;rw[hol];exact EB
    have hbb:xk m now gone=some b:=by unfold xk;rw[hi21];exact J
    have hbl:=ac1 hbb;refine bK (l':=[(1,D (m:Int)),(6,.slice none 0 0),(7,D 0),(10,.slice (some ⟨O,0,none⟩) l.length l.length),(35,D (mv:Int)),(9,.slice A1 l.length c1),(11,.slice A3 Z c3),(36,D (Z:Int)),(12,.slice (some ⟨Zh,0,none⟩) m m),(13,D ((qz m now:Nat):Int)),(14,D ((oI m now:Nat):Int)),(46,.slice A1 l.length c1),(47,D (l.length:Int)),(15,D (b:Int)),(49,.bool false)]) ⟨E,E,E,E,E,E,E,E,E,E,E,E,E,E,E,trivial⟩ (aH (vm ?_));refine zN 10 ?_;refine vv (v:=pV O b) (aQ E E E (IB b Tryz.underlying67 kQ (by rfl) (by omega))) ?_;refine Hf (row':=sI (λj=>decide (j=b) || gone j) l.length) 3 uh (wn E) E E E E E E kQ E (by rw[aaY];omega) (aeG _) ?_;intro aNX ZP;change St _ _ _ [_,_,_,.Pj O (sI (λj=>decide (j=b) || gone j) l.length) 4,_]at ZP;refine zN 7 ?_;obtain⟨alH,rfl⟩:=zO (ZP.own 2 E) (by omega);obtain⟨M,aql⟩:=GX b (St.Vj 2 ZP E) (by omega);refine vv (v:=.pointer (some ⟨alH,0+b*3,none⟩)) (aQ E E E (jD b underlying43 kQ (by omega) (by omega))) ?_;refine vv (rV (0+b*3+1) aqk) ?_;refine mZ (xs':=(oW now b (oI m now)).flatMap Ld.cells) 2 ZP (wn E) E E E E E E ard E (dh E) (by omega) (by rw[fq];exact ah3) ?_;intro awG Iy;change St _ _ _ [_,_,.own 42 3 (.slice (some ⟨alH,0,none⟩) l.length c1) l.length ((oW now b (oI m now)).flatMap Ld.cells),_,_]at Iy;have hxm:(oW now b (oI m now))[b]? =some ⟨M.Qu,((oI m now:Nat):Int),M.work⟩:=by rw[yu,aql];simp
    refine zN 6 ?_;refine vv (v:=.pointer (some ⟨alH,0+b*3,none⟩)) (aQ E E E (jD b underlying43 kQ (by omega) (by omega))) ?_;refine vv (rV (0+b*3) az4) ?_;refine vv (v:=D M.Qu) (ay E E (qO underlying3 E (Rd.Qg (i:=0) (St.Vj 2 Iy E) (dw (enc:=Ld.cells) (sz:=3) (λ_=>E) hxm E)))) ?_;refine zN 2 ?_;refine vv (v:=.agg #[D M.Qu,D ((qz m now:Nat):Int),D ((oI m now:Nat):Int)]) iE ?_;refine mE (V:=λb=>.slice (some ⟨b,0,none⟩) 1 1) (row:= #[D M.Qu,D ((qz m now:Nat):Int),D ((oI m now:Nat):Int)]) (t:=49) Iy (wn E) E E (bq (vs:=[(0,.agg #[D M.Qu,D ((qz m now:Nat):Int),D ((oI m now:Nat):Int)])]) E ⟨E,E,trivial⟩ (by kernel_rfl)) ?_;intro awH awI zq;clear Iy;refine eu (news:=[D M.Qu,D ((qz m now:Nat):Int),D ((oI m now:Nat):Int)]) (xs':=(RS++[(⟨M.Qu,((qz m now:Nat):Int),((oI m now:Nat):Int)⟩:rz)]).flatMap rz.cells) 2 zq (wn E) E E E E E E (St.nO (xs:=[D M.Qu,D ((qz m now:Nat):Int),D ((oI m now:Nat):Int)]) 0 zq E E E) Tryz.underlying44 au1 E (by decide) (dh E) (by simp only[maxLen];omega) (by omega) (jV (enc:=rz.cells) E E) ?_;intro aEM aEN aEO aJG aJH afD;refine zN 5 ?_;refine vv (v:=D ((Z+1:Nat):Int)) jB ?_;refine zN 2 ?_;have V5:=afD.bg [1,0];refine bQ (Z+1,oW now b (oI m now),(λj=>decide (j=b) || gone j),RS++[(⟨M.Qu,((qz m now:Nat):Int),((oI m now:Nat):Int)⟩:rz)],(some ⟨alH,0,none⟩),c1,aEM,aEN) ?_ ⟨E,E,E,E,E,E,E,E,trivial⟩ (by first|omega|(dsimp only;omega));exact⟨(by dsimp only;omega),(by dsimp only;rw[alG,show mv-Z=mv-(Z+1)+1 from by omega,ajJ hbb,abl aql,gq];rfl),(V4.move (ac9 (by omega))),(by dsimp only;rw[Gt];exact hi21),(by dsimp only;rw[aY,hi22];rfl),(by dsimp only;exact V5)⟩
   refine zN 18 ?_;refine uf ?_;refine zQ ?_;have afE:=zi.bg [3,2,1];have aEP:=afE.bU 0 E;have hal:(LG l (m:Int) (mv:Int))=(RS,0):=aib h0 (by omega) (by rw[alG];rw[show mv-Z=0 from by omega];exact bI _);rw[hal];have hol:RS.length=Z:=hi22;refine⟨A3,c3,?_,?_⟩
   · dsimp only;rw[hol];rfl
   · dsimp only;rw[hol];exact aEP
  refine zN 2 ?_;by_cases hm0:moves<0
  ·refine zN 16 ?_;refine uf ?_;refine zQ ?_;have arV:=S2.bg [0];rw[RQ h0 (by omega)];exact⟨none,0,E,aG arV⟩
  refine zN 16 ?_;refine uf ?_;refine zQ ?_;have LZ:=S2.bg [0];rw[RQ h0 (by omega)];exact⟨none,0,E,aG LZ⟩
 refine zN 13 ?_;refine uf ?_;refine zQ ?_;have VW:=S2.bg [0];rw[aoA h0];exact⟨none,0,E,aG VW⟩
def TW{t z:Int}{f:Nat->Bool}:∀ {k:Nat},z∈kR t f k-> ∃j,j<k/\f j=true/\z=t-8+j
 | 0,h=>by simp[kR]at h
 |k+1,h=>by
  unfold kR at h
  split at h
  ·rename_i J
   rcases bD.1 h with h|h
   ·obtain⟨j,h1,I⟩:=TW h;exact⟨j,by omega,I⟩
   rw[aI]at h;exact⟨k,by omega,J,h⟩
  obtain⟨j,h1,I⟩:=TW h;exact⟨j,by omega,I⟩
def aj1{t:Int}{bs:List Bool}{i:Nat}(hi:i<8):(ahb t bs).at i=bs.getD i false:=by
 have h:i=0\/i=1\/i=2\/i=3\/i=4\/i=5\/i=6\/i=7:=Y
 rcases h with rfl|rfl|rfl|rfl|rfl|rfl|rfl|rfl<;>rfl
def au3{x:mX}{id:Int}(h:(tY x id).2=0):eT (FH x id)=0:=by
 obtain⟨h1,h2,h3⟩:=JY h;have h0:=vP h1;have J:=afe h1;have hx:Jd x.top x.at=true:=by
  unfold eT at h1
  split at h1
  ·rename_i O
   simp only[Bool.and_eq_true]at O;exact O.1.2
  cases h1
 have Z:(FH x id).top=max x.top (id+1):=rfl;have M:∀i,i<8->(FH x id).at i=decide (max x.top (id+1)-8+i∈kR x.top x.at 8++[id]):=λi hi=>by
  unfold FH;rw[aj1 hi,aaL _ _ _ hi]
 unfold eT;refine aj ?_;have hw:Jd (FH x id).top (FH x id).at=true:=uX.2 λk hk I=>by
  rw[M k hk,ada]at I;rw[Z]
  rcases bD.1 I with I|I
  ·obtain⟨j,j1,j2,j3⟩:=TW I;have:=uX.1 hx j j1 j2;omega
  rw[aI]at I;omega
 have h7:(FH x id).b7=true:=by
  show(FH x id).at 7=true
  rw[M 7 Y,ada];by_cases c:x.top<=id
  ·rw[show max x.top (id+1)=id+1 by omega];exact aL _ (by rw[aI];omega)
  rw[show max x.top (id+1)=x.top by omega];refine bO _ ?_
  rcases J with⟨h4,_⟩|⟨_,h5,h6⟩
  ·omega
  have:=getLast_mem h5;rw[getLastD_eq_getLast?,getLast?_eq_some_getLast h5,Option.getD_some]at h6;rw[h6]at this;rwa [show x.top-8+((7:Nat):Int)=x.top-1 by omega]
 rw[hw,h7,Z];simp only[Bool.and_true,Bool.or_true,Bool.and_eq_true,decide_eq_true_eq];omega
def aoC{x:mX}{id:Int}(h:(jZ x id).2.2=0)(h1:(jZ x id).2.1=true):eT (jZ x id).1=0:=by
 unfold jZ at h h1⊢;by_cases c1:(tY x id).2≠0
 ·rw[aj c1]at h;exact av h c1
 rw[ah c1]at h h1⊢;by_cases c2:(tY x id).1=true
 ·rw[aj c2]at h1;cases h1
 rw[ah c2];exact au3 (fM.1 c1)
def Hy:∀ {rs:List iK} {p:Int},lW nx p rs=true↔(∀x∈rs,uZ nx x=true/\p<x.no)/\rs.Pairwise λa b=>a.no<b.no
 |[],p=>by simp[lW]
 |m::r,p=>by
  simp only[lW,Bool.and_eq_true,decide_eq_true_eq,Hy (rs:=r),pairwise_cons,mem_cons,forall_eq_or_imp]
  constructor
  ·rintro⟨⟨h1,J⟩,I,M⟩;exact⟨⟨⟨h1,J⟩,λx h=>⟨(I x h).1,Ho J (I x h).2⟩⟩,λx h=>(I x h).2,M⟩
  rintro⟨⟨⟨h1,J⟩,I⟩,M,O⟩;exact⟨⟨h1,J⟩,λx h=>⟨(I x h).1,M x h⟩,O⟩
def MX:∀ {ls:List Ls} {p:Int},nR ep nx gv p ls=true↔(∀x∈ls,uZ nx x.Vh=true/\x.iB=ep/\p<x.Qz/\x.Qz<gv)/\ls.Pairwise λa b=>a.Qz<b.Qz
 |[],p=>by simp[nR]
 |m::r,p=>by
  simp only[nR,Pm,Bool.and_eq_true,decide_eq_true_eq,MX (ls:=r),pairwise_cons,mem_cons,forall_eq_or_imp]
  constructor
  ·rintro⟨⟨h1,O,J,h⟩,M,Z⟩;exact⟨⟨⟨h1,O,J,h⟩,λx I=>⟨(M x I).1,(M x I).2.1,Ho J (M x I).2.2.1,(M x I).2.2.2⟩⟩,λx I=>(M x I).2.2.1,Z⟩
  rintro⟨⟨⟨h1,O,J,h⟩,M⟩,Z,h5⟩;exact⟨⟨h1,O,J,h⟩,λx I=>⟨(M x I).1,(M x I).2.1,Z x I,(M x I).2.2.2⟩,h5⟩
def WW{I:Int}{m:iK}(h:uZ nx m=true)(hn:nx<=I):uZ I m=true:=by
 have:=zS h;exact jU Y
def Vn(h:VP ep nx gv rs ls)(h1:CJ W)(I:lW nx (-1) rs=true)(J:nR ep nx gv (-1) ls=true)(M:(qE rs ls).Nodup):iH ep nx gv rs ls W=0:=by
 unfold iH;rw[ah (λe=>e h),ah (λe=>e h1),aj ⟨I,J,M⟩]
def aj2{k:Nat}{y:mX}(h:CJ W)(M:eT y=0)(hk:k<4):CJ (W.put k y):=λj hj=>by
 have O:=h 0 Y;have h1:=h 1 Y;have Z:=h 2 Y;have h3:=h 3 Y;have I:k=0\/k=1\/k=2\/k=3:=Y;have J:j=0\/j=1\/j=2\/j=3:=Y
 rcases I with rfl|rfl|rfl|rfl<;>rcases J with rfl|rfl|rfl|rfl<;>first|exact M|exact O|exact h1|exact Z|exact h3
def NA{m:iK}:∀ {l:List iK},(lX m l).Perm (m::l)
 |[]=>.refl _
 |x::l=>by
  unfold lX
  split
  ·exact .refl _
  exact((NA (l:=l)).cons x).trans (.swap m x l)
def adb{m:iK}:∀ {l:List iK},u6 l->u6 (lX m l)
 |[],_=>ade _ _
 |x::l,h=>by
  obtain⟨h1,J⟩:=yP.1 h;unfold lX
  split
  ·rename_i M
   refine yP.2 ⟨λy I=>?_,h⟩
   rcases iR.1 I with rfl|I
   ·omega
   have:=h1 y I;omega
  rename_i M
  refine yP.2 ⟨λy I=>?_,adb J⟩
  rcases iR.1 (NA.mem_iff.1 I)with rfl|I
  ·omega
  exact h1 y I
def RU:∀(ls:List Ls) (rs:List iK),(ls.foldl (λl x=>lX x.Vh l) rs).Perm (rs++ls.map (·.Vh))
 |[],rs=>by simp
 |x::ls,rs=>by
  refine(RU ls (lX x.Vh rs)).trans ?_;refine(NA.append_right _).trans ?_;rw[DC];exact(perm_middle).symm
def WX:∀(ls:List Ls) (rs:List iK),u6 rs->u6 (ls.foldl (λl x=>lX x.Vh l) rs)
 |[],rs,h=>h
 |x::ls,rs,h=>WX ls _ (adb h)
def abz{l:List iK}(h:u6 l)(hn:(l.map (·.no)).Nodup):l.Pairwise λa b=>a.no<b.no:=by
 have I:l.Pairwise λa b=>a.no≠b.no:=pairwise_map.1 hn;exact(h.and I).imp λh=>by omega
end
def aj3{Q:Qd}{e:Ev}(h:Q.Vg=0)(he:bJ e=0):(QT Q e).1.Vg=0:=by
 obtain⟨hr,hw,h2,h3,M⟩:=TU h;have hp:=acQ he;obtain⟨ep,nx,gv,rs,ls,W⟩:=Q;dsimp only at hr hw h2 h3 M;obtain⟨r1,r2,r3,r4,r5,r6,r7⟩:=hr;obtain⟨a1,a2⟩:=Hy.1 h2;obtain⟨b1,b2⟩:=MX.1 h3;unfold QT
 split
 ·unfold Et
  split
  ·exact h
  split
  ·exact h
  split
  ·exact h
  rename_i k1 k2 k3 k4
  dsimp only at k2 k3 k4⊢;have hlt:∀z∈qE rs ls,z<nx:=λz Z=>by
   unfold qE at Z
   rcases bD.1 Z with Z|Z
   ·obtain⟨x,I,rfl⟩:=nJ.1 Z;exact(zS (a1 x I).1).2.1
   obtain⟨x,I,rfl⟩:=nJ.1 Z;exact(zS (b1 x I).1).2.1
  have hbd:0<=e.body/\e.body<=1000000:=by
   unfold bJ at he
   repeat' split at he
   all_goals first
    |(cases he;done)
    |(simp only[mo,Bool.and_eq_true,decide_eq_true_eq,not_and,Classical.not_not]at*;omega)
  show iH ep (nx+1) gv (rs++[⟨nx,e.body⟩]) ls (W.put e.Pv.toNat (jZ (W.at e.Pv.toNat) e.id).1)=0
  refine Vn ⟨r1,r2,by omega,by omega,r5,r6,by rw[aY,lZ];omega⟩ (aj2 hw (aoC (fM.1 k2) (by simpa using k3)) Y) (Hy.2 ⟨λx I=>?_,?_⟩) (MX.2 ⟨λx I=>⟨WW (b1 x I).1 Y,(b1 x I).2⟩,b2⟩) ?_
  ·rcases bD.1 I with I|I
   ·exact⟨WW (a1 x I).1 Y,(a1 x I).2⟩
   rw[aI]at I;subst I;exact⟨jU uQ,by dsimp only;omega⟩
  ·refine pairwise_append.2 ⟨a2,ade _ _,λx I y O=>?_⟩;rw[aI]at O;subst O;exact hlt _ (bO _ (TY I))
  have:(qE (rs++[⟨nx,e.body⟩]) ls).Perm (nx::qE rs ls):=by
   unfold qE;rw[gX,gq];exact perm_middle
  exact this.nodup_iff.2 (Lm.2 ⟨λhm=>by have:=hlt _ hm;omega,M⟩)
 split
 ·unfold J2;dsimp only
  split
  ·exact h
  rename_i m rest
  split
  ·exact h
  rename_i k1
  obtain⟨a3,a4⟩:=yP.1 a2;have hm:=a1 m iQ
  show iH ep nx (gv+1) rest (ls++[⟨ep,gv,m⟩]) W=0
  refine Vn ⟨r1,r2,r3,r4,by omega,by omega,by rw[aY,lZ];rw[mO]at r7;omega⟩ hw (Hy.2 ⟨λx I=>a1 x (by simp[I]),a4⟩) (MX.2 ⟨λx I=>?_,?_⟩) ?_
  ·rcases bD.1 I with I|I
   ·have:=b1 x I;exact⟨this.1,this.2.1,this.2.2.1,by omega⟩
   rw[aI]at I;subst I;exact⟨hm.1,E,by dsimp only;omega,by dsimp only;omega⟩
  ·refine pairwise_append.2 ⟨b2,ade _ _,λx I y O=>?_⟩;rw[aI]at O;subst O;exact(b1 x I).2.2.2
  refine(Perm.nodup_iff ?_).1 M;unfold qE;rw[DC,gX,wO,<-gq];exact(Bv (l₁:=[m.no]) (l₂:=rest.map (·.no)++ls.map (·.Vh.no)))
 split
 ·unfold Ip;dsimp only
  split
  ·exact h
  split
  ·exact h
  have J:(ls.filter λx=>decide (x.Qz≠e.Qz)).Sublist ls:=filter_sublist
  show iH ep nx gv rs (ls.filter λx=>decide (x.Qz≠e.Qz)) W=0
  refine Vn ⟨r1,r2,r3,r4,r5,r6,by have:=J.length_le;omega⟩ hw h2 (MX.2 ⟨λx I=>b1 x (J.subset I),b2.sublist J⟩) ?_;unfold qE at M⊢;exact M.sublist ((Sublist.refl _).append (J.map _))
 unfold Iq;dsimp only
 split
 ·exact h
 have hP:=RU ls rs;have hlen:=hP.length_eq;rw[aY,gK]at hlen;have hnn:((ls.foldl (λl x=>lX x.Vh l) rs).map (·.no)).Nodup:=by
  refine((hP.map (·.no)).nodup_iff).2 ?_;unfold qE at M;rw[gX,map_map];exact M
 show iH (ep+1) nx 0 (ls.foldl (λl x=>lX x.Vh l) rs) [] W=0
 refine Vn ⟨by omega,by omega,r3,r4,by omega,by omega,by rw[length_nil];omega⟩ hw (Hy.2 ⟨λx I=>?_,abz (WX ls rs (a2.imp λh=>He h)) hnn⟩) E ?_
 ·rcases bD.1 (hP.mem_iff.1 I)with I|I
  ·exact a1 x I
  obtain⟨y,O,rfl⟩:=nJ.1 I;have:=(b1 y O).1;exact⟨this,by have:=zS this;omega⟩
 unfold qE;rw[map_nil,bI];exact hnn
def au4{Q:Qd}{e:Ev}(h:(jN Q e).2.2.2=0):(jN Q e).1.Vg=0:=by
 by_cases c1:Q.Vg=0
 ·by_cases c2:bJ e=0
  ·rw[Cr c1 c2];exact aj3 c1 c2
  rw[UY c1 c2]at h;exact av h c2
 rw[PY c1]at h;exact av h c1
def afF:fU.Vg=0:=by
 refine Vn ⟨by decide,by decide,by decide,by decide,by decide,by decide,by decide⟩ (λj I=>?_) E E nodup_nil;have h:j=0\/j=1\/j=2\/j=3:=Y
 rcases h with rfl|rfl|rfl|rfl<;>decide
end Go.Proofs.YtceeleolddkibaaGreatDoor
