import Derived.Test.YtlfgjcahpppbbaaGreatDoorGf1f46
set_option maxRecDepth 100000
set_option maxHeartbeats 8000000
set_option linter.unusedSimpArgs false
set_option linter.unusedVariables false
namespace Go.Proofs.YtlfgjcahpppbbaaGreatDoor
open ChangeShapes WideShapes RowKit
def kI (w:World) (r:bn×Int) (e:Ending) (w':World):Prop:= ∃ A c,∃ _:r.1.evs.length<=c,e= .returned (.tuple #[.agg #[iV r.1.role,iV r.1.ep,iV r.1.fr,iV r.1.tg,iV r.1.rd,.slice A r.1.evs.length c],iV r.2])/\St w.heap.size w w' [.bJ 6 A r.1.evs.length (bg r.1.evs)]
def abw (w:World) (r:bn×iM×Bool×Int) (e:Ending) (w':World):Prop:= ∃ A c,∃ _:r.1.evs.length<=c,e= .returned (.tuple #[.agg #[iV r.1.role,iV r.1.ep,iV r.1.fr,iV r.1.tg,iV r.1.rd,.slice A r.1.evs.length c],r.2.1.val,.bool r.2.2.1,iV r.2.2.2])/\St w.heap.size w w' [.bJ 6 A r.1.evs.length (bg r.1.evs)]
def Tc (w:World) (r:List Ev×Bool×Int) (e:Ending) (w':World):Prop:= ∃ A c,∃ _:r.1.length<=c,e= .returned (.tuple #[.slice A r.1.length c,.bool r.2.1,iV r.2.2])/\St w.heap.size w w' [.bJ 6 A r.1.length (bg r.1)]
def Td (w:World) (ro ep fr tg rd:Int) (l:List Ev) (e:Ending) (w':World):Prop:= ∃ A c,e= .returned (.agg #[iV ro,iV ep,iV fr,iV tg,iV rd,.slice A l.length c])/\St w.heap.size w w' [.own 65 6 (.slice A l.length c) l.length (bg l)]
theorem kJ (n:Int) (w:World):
    Calls tP 95 #[iV n] w (FW w (decide (0<=n/\n<5))):=by
 have S:=St.start w;refine gu 9 Tryz.func95 ?_;refine cw [0] ?_;refine zN 8 ?_;by_cases h1:0<=n
 ·refine zN 3 ?_;by_cases h2:n<5
  ·refine zN 7 ?_;exact ⟨congrArg (λb=>Ending.returned (.bool b)) (decide_eq_true oQ).symm,S.low⟩
  refine zN 7 ?_;exact ⟨congrArg (λb=>Ending.returned (.bool b)) (decide_eq_false oQ).symm,S.low⟩
 refine zN 10 ?_;exact ⟨congrArg (λb=>Ending.returned (.bool b)) (decide_eq_false oQ).symm,S.low⟩
theorem U4 (ro ep fr tg rd:Int) (A:Option Addr) (c:Nat) (l:List Ev) (w:World) (h:Rd w w.heap.size 6 A l.length (bg l)) (hl:l.length<=1152921504606846976):
    Calls tP 113 #[.agg #[iV ro,iV ep,iV fr,iV tg,iV rd,.slice A l.length c]] w (FW w (decide (bq ⟨ro,ep,fr,tg,rd,l⟩))):=by
 have S:=(St.start w).bL h;refine gu 110 Tryz.func113 ?_;refine cw [0] ?_;refine zN 2 ?_;refine iH S ?_;intro b1 w2 S3;refine zN 8 ?_;by_cases h4:ro=0
 ·refine zN 8 ?_;by_cases h5:0<=ep
  ·refine zN 4 ?_;by_cases h6:ep<=1048576
   ·refine zN 5 ?_;by_cases h7:fr=0
    ·refine zN 5 ?_;by_cases h8:tg=0
     ·refine zN 5 ?_;by_cases h9:rd=0
      ·refine zN 6 ?_;by_cases h10:((l.length:Nat):Int)=0
       ·refine zN 8 ?_;exact ⟨congrArg (λb=>Ending.returned (.bool b)) (decide_eq_true (by unfold bq;dsimp only;omega)).symm,S3.low⟩
       refine zN 8 ?_;exact ⟨congrArg (λb=>Ending.returned (.bool b)) (decide_eq_false (by unfold bq;dsimp only;omega)).symm,S3.low⟩
      refine zN 14 ?_;exact ⟨congrArg (λb=>Ending.returned (.bool b)) (decide_eq_false (by unfold bq;dsimp only;omega)).symm,S3.low⟩
     refine zN 19 ?_;exact ⟨congrArg (λb=>Ending.returned (.bool b)) (decide_eq_false (by unfold bq;dsimp only;omega)).symm,S3.low⟩
    refine zN 24 ?_;exact ⟨congrArg (λb=>Ending.returned (.bool b)) (decide_eq_false (by unfold bq;dsimp only;omega)).symm,S3.low⟩
   refine zN 29 ?_;exact ⟨congrArg (λb=>Ending.returned (.bool b)) (decide_eq_false (by unfold bq;dsimp only;omega)).symm,S3.low⟩
  refine zN 33 ?_;exact ⟨congrArg (λb=>Ending.returned (.bool b)) (decide_eq_false (by unfold bq;dsimp only;omega)).symm,S3.low⟩
 refine zN 11 ?_;by_cases h11:ep<1
 ·refine zN 17 ?_;exact ⟨congrArg (λb=>Ending.returned (.bool b)) (decide_eq_false (by unfold bq;dsimp only;omega)).symm,S3.low⟩
 refine zN 4 ?_;by_cases h12:1048576<ep
 ·refine zN 13 ?_;exact ⟨congrArg (λb=>Ending.returned (.bool b)) (decide_eq_false (by unfold bq;dsimp only;omega)).symm,S3.low⟩
 refine zN 17 ?_;by_cases pR:ro=1
 ·refine zN 9 ?_;by_cases h14:fr=0
  ·refine zN 4 ?_;by_cases h15:tg=0
   ·refine zN 5 ?_;by_cases h16:rd=0
    ·refine zN 9 ?_;exact ⟨congrArg (λb=>Ending.returned (.bool b)) (decide_eq_true (by unfold bq;dsimp only;omega)).symm,S3.low⟩
    refine zN 9 ?_;exact ⟨congrArg (λb=>Ending.returned (.bool b)) (decide_eq_false (by unfold bq;dsimp only;omega)).symm,S3.low⟩
   refine zN 14 ?_;exact ⟨congrArg (λb=>Ending.returned (.bool b)) (decide_eq_false (by unfold bq;dsimp only;omega)).symm,S3.low⟩
  refine zN 18 ?_;exact ⟨congrArg (λb=>Ending.returned (.bool b)) (decide_eq_false (by unfold bq;dsimp only;omega)).symm,S3.low⟩
 refine zN 7 ?_;by_cases u7:ro=2
 ·refine zN 9 ?_;by_cases h18:fr=0
  ·refine zN 4 ?_;by_cases abx:0<=tg/\tg<5
   ·have aby:=λ(w:World)=>kJ tg w;rw [decide_eq_true abx] at aby;refine xY eQ (aby _) ?_;rintro _ DW ⟨rfl,abz⟩;refine ⟨_,rfl,?_⟩;have iX:=S3.on abz;clear abz S3;refine zN 4 ?_;by_cases QW:0<=rd
    ·refine zN 5 ?_;by_cases uG:rd<=4
     ·refine zN 9 ?_;exact ⟨congrArg (λb=>Ending.returned (.bool b)) (decide_eq_true (by unfold bq;dsimp only;omega)).symm,iX.low⟩
     refine zN 9 ?_;exact ⟨congrArg (λb=>Ending.returned (.bool b)) (decide_eq_false (by unfold bq;dsimp only;omega)).symm,iX.low⟩
    refine zN 14 ?_;exact ⟨congrArg (λb=>Ending.returned (.bool b)) (decide_eq_false (by unfold bq;dsimp only;omega)).symm,iX.low⟩
   have atr:=λ(w:World)=>kJ tg w;rw [decide_eq_false abx] at atr;refine xY eQ (atr _) ?_;rintro _ MW ⟨rfl,ah9⟩;refine ⟨_,rfl,?_⟩;have qy:=S3.on ah9;clear ah9 S3;refine zN 18 ?_;exact ⟨congrArg (λb=>Ending.returned (.bool b)) (decide_eq_false (by unfold bq;dsimp only;omega)).symm,qy.low⟩
  refine zN 23 ?_;exact ⟨congrArg (λb=>Ending.returned (.bool b)) (decide_eq_false (by unfold bq;dsimp only;omega)).symm,S3.low⟩
 refine zN 7 ?_;by_cases h30:ro=3
 ·refine zN 9 ?_;by_cases h31:fr=0
  ·refine zN 4 ?_;by_cases atu:0<=tg/\tg<5
   ·have atv:=λ(w:World)=>kJ tg w;rw [decide_eq_true atu] at atv;refine xY eQ (atv _) ?_;rintro _ w34 ⟨rfl,atw⟩;refine ⟨_,rfl,?_⟩;have uf:=S3.on atw;clear atw S3;refine zN 4 ?_;by_cases h37:rd=0
    ·refine zN 9 ?_;exact ⟨congrArg (λb=>Ending.returned (.bool b)) (decide_eq_true (by unfold bq;dsimp only;omega)).symm,uf.low⟩
    refine zN 9 ?_;exact ⟨congrArg (λb=>Ending.returned (.bool b)) (decide_eq_false (by unfold bq;dsimp only;omega)).symm,uf.low⟩
   have atx:=λ(w:World)=>kJ tg w;rw [decide_eq_false atu] at atx;refine xY eQ (atx _) ?_;rintro _ w39 ⟨rfl,aty⟩;refine ⟨_,rfl,?_⟩;have rY:=S3.on aty;clear aty S3;refine zN 13 ?_;exact ⟨congrArg (λb=>Ending.returned (.bool b)) (decide_eq_false (by unfold bq;dsimp only;omega)).symm,rY.low⟩
  refine zN 18 ?_;exact ⟨congrArg (λb=>Ending.returned (.bool b)) (decide_eq_false (by unfold bq;dsimp only;omega)).symm,S3.low⟩
 refine zN 7 ?_;by_cases h42:ro=4
 ·refine zN 9 ?_;by_cases atz:0<=fr/\fr<5
  ·have atA:=λ(w:World)=>kJ fr w;rw [decide_eq_true atz] at atA;refine dF eQ (atA _) ?_;rintro _ w45 ⟨rfl,WG⟩;refine ⟨_,rfl,?_⟩;have rX:=S3.on WG;clear WG S3;refine zN 3 ?_;by_cases h48:tg=0
   ·refine zN 5 ?_;by_cases h49:rd=0
    ·refine zN 9 ?_;exact ⟨congrArg (λb=>Ending.returned (.bool b)) (decide_eq_true (by unfold bq;dsimp only;omega)).symm,rX.low⟩
    refine zN 9 ?_;exact ⟨congrArg (λb=>Ending.returned (.bool b)) (decide_eq_false (by unfold bq;dsimp only;omega)).symm,rX.low⟩
   refine zN 14 ?_;exact ⟨congrArg (λb=>Ending.returned (.bool b)) (decide_eq_false (by unfold bq;dsimp only;omega)).symm,rX.low⟩
  have atB:=λ(w:World)=>kJ fr w;rw [decide_eq_false atz] at atB;refine dF eQ (atB _) ?_;rintro _ SX ⟨rfl,atC⟩;refine ⟨_,rfl,?_⟩;have lU:=S3.on atC;clear atC S3;refine zN 17 ?_;exact ⟨congrArg (λb=>Ending.returned (.bool b)) (decide_eq_false (by unfold bq;dsimp only;omega)).symm,lU.low⟩
 refine zN 15 ?_;exact ⟨congrArg (λb=>Ending.returned (.bool b)) (decide_eq_false (by unfold bq;dsimp only;omega)).symm,S3.low⟩
theorem dZ (ro ep fr tg rd:Int) (A:Option Addr) (c:Nat) (l:List Ev) (w:World) (h:Rd w w.heap.size 6 A l.length (bg l)) (hl:l.length<=1152921504606846976):
    Calls tP 84 #[.agg #[iV ro,iV ep,iV fr,iV tg,iV rd,.slice A l.length c]] w (WC w (au ⟨ro,ep,fr,tg,rd,l⟩)):=by
 have S:=(St.start w).bL h;refine gu 16 Tryz.func84 ?_;refine cw [0] ?_;refine zN 2 ?_;refine iH S ?_;intro b1 w2 S3;refine zN 7 ?_;have HC:=λ(w:World) (h:Rd w w.heap.size 6 A l.length (bg l))=>U4 ro ep fr tg rd A c l w h hl;by_cases hs:bq ⟨ro,ep,fr,tg,rd,l⟩
 ·rw [decide_eq_true hs] at HC;refine dF eQ (HC _ (St.rd 1 S3 rfl)) ?_;rintro _ w4 ⟨rfl,hb6⟩;refine ⟨_,rfl,?_⟩;have S5:=S3.on hb6;clear hb6 S3;refine zN 11 ?_;refine dF eQ (zS A c l _ (St.rd 1 S5 rfl) oQ) ?_;rintro _ GI ⟨A7,c8,A9,c10,rfl,T13⟩;refine ⟨_,rfl,?_⟩;have l5:=S5.ext T13 rfl;refine zN 3 ?_;refine jC (V:=λb=>pV b 0) (row:=bI 0 0 0 (.slice none 0 0) (.slice none 0 0) fF) (t:=47) l5 (wn rfl) rfl rfl (dO rfl (Tryz.zeroValue47 _) rfl) ?_;intro b14 JV lV;refine saq 0 lV kQ ?_;intro Lb jc;refine zN 6 ?_;by_cases h19:(av l).2.2=0
  ·refine zN 13 ?_;exact ⟨gZ (by first | exact (mE ‹_› ‹_›).symm | exact (Km ‹_›).symm | exact (Qh (b:=⟨ro,ep,fr,tg,rd,l⟩) ‹_›).symm),jc.low⟩
  refine zN 12 ?_;exact ⟨gZ (by first | exact (mE ‹_› ‹_›).symm | exact (Km ‹_›).symm | exact (Qh (b:=⟨ro,ep,fr,tg,rd,l⟩) ‹_›).symm),jc.low⟩
 rw [decide_eq_false hs] at HC;refine dF eQ (HC _ (St.rd 1 S3 rfl)) ?_;rintro _ ZF ⟨rfl,abB⟩;refine ⟨_,rfl,?_⟩;have tZ:=S3.on abB;clear abB S3;refine zN 12 ?_;exact ⟨gZ (by first | exact (mE ‹_› ‹_›).symm | exact (Km ‹_›).symm | exact (Qh (b:=⟨ro,ep,fr,tg,rd,l⟩) ‹_›).symm),tZ.low⟩
theorem arb {l k:List Ev}:l.flatMap Ev.cells++k.flatMap Ev.cells=(l++k).flatMap Ev.cells:=by simp
theorem lW (A:Option Addr) (n c:Nat) (l:List Value) (w:World) (h:Rd w w.heap.size 6 A n l) (hone: ∀ u∈l,u.oneCell'=true) (hc:n*48<=reachBytes):
    Calls tP 129 #[.slice A n c] w (jq w 65 6 n l):=by
 unfold reachBytes at hc;have S:=(St.start w).bL h;refine gu 8 Tryz.func129 ?_;refine cw [0] ?_;refine zN 9 ?_
 cases A with
 | none=>
  obtain ⟨rfl,rfl⟩:=I9 h;refine vv (v:= .bool true) (bE rfl rfl rfl (vN Tryz.underlying55)) ?_;refine zN 11 ?_;exact jq.of (Below.refl _ _) (jg _ _ _ _)
 | some a=>
  refine vv (v:= .bool false) (bE rfl rfl rfl (vN Tryz.underlying55)) ?_;refine zN 7 ?_;refine oM (V:=λb=> .slice (aD b 0) 0 0) (row:= #[]) (t:=65) (n:=0) (s:=6) (xs:=[]) S (wn rfl) rfl rfl (aS (vs:=[]) rfl trivial kQ) iQ (Nat.zero_le _) rfl ?_;intro b1 w2 S3;refine zQ ?_;refine dx (news:=l) (xs':=l) 0 S3 (wn rfl) rfl rfl rfl rfl rfl rfl (St.rd 1 S3 rfl) Tryz.underlying55 oO rfl dQ hone lQ oQ rfl ?_;intro A4 c5 w6 hc8 qV S7;refine zN 5 ?_;have qx:=S7.aP [1];have ho:=qx.own 0 rfl;simp only [Nat.zero_add] at ho⊢;exact jq.of qx.low ho
theorem rE (ro ep fr tg rd:Int) (A:Option Addr) (c:Nat) (l:List Ev) (A':Option Addr) (c':Nat) (k:List Ev) (w:World) (h:Rd w w.heap.size 6 A l.length (bg l)) (h':Rd w w.heap.size 6 A' k.length (bg k)) (hb:(l.length+k.length)*48<=reachBytes):
    Calls tP 93 #[.agg #[iV ro,iV ep,iV fr,iV tg,iV rd,.slice A l.length c],.slice A' k.length c'] w (Td w ro ep fr tg rd (l++k)):=by
 have S:=((St.start w).bL h').bL h;clear h h';unfold reachBytes at hb;refine gu 12 Tryz.func93 ?_;refine cw [0,1] ?_;refine zN 2 ?_;refine iH S ?_;intro b1 w2 S3;refine gq S3 fP ?_;intro b4 w5 S6;refine zN 6 ?_;refine dF eQ (lW A l.length c _ _ (St.rd 2 S6 rfl) (fE l) hQ) ?_;rintro _ GI ⟨A7,c8,rfl,Q6,aAA⟩;refine ⟨_,rfl,?_⟩;have l5:=S6.uo Q6 aAA;refine zQ ?_;refine dx (news:=(k).flatMap Ev.cells) (xs':=(l++k).flatMap Ev.cells) 0 l5 (wn rfl) rfl rfl rfl rfl rfl rfl (St.rd 4 l5 rfl) Tryz.underlying55 oO rfl dQ (fE _) lQ oQ (arb) ?_;intro A13 c14 JV hc17 hm18 lV;refine zQ ?_;refine Hz 2 lV kQ ?_;intro FX mM;refine zN 5 ?_;refine sa 1 mM kQ ?_;intro DW iX;refine zN 4 ?_;have oh:=iX.aP [4,3,2,1];have hl:(l++k).length=l.length+k.length:=List.length_append;rw [<-hl] at oh;exact ⟨A13,c14,by rw [hl];rfl,oh⟩
theorem jk (ro ep fr tg rd:Int) (A:Option Addr) (c:Nat) (l:List Ev) (w:World) (h:Rd w w.heap.size 6 A l.length (bg l)) (hb:l.length*48<=reachBytes):
  Calls tP 93 #[.agg #[iV ro,iV ep,iV fr,iV tg,iV rd,.slice A l.length c],.slice none 0 0] w (Td w ro ep fr tg rd l):=by
 have:=rE ro ep fr tg rd A c l none 0 [] w h Rd.none_ (by simpa using hb);rw [List.append_nil] at this;exact this
theorem Lr (ro ep fr tg rd:Int) (A:Option Addr) (c:Nat) (l:List Ev) (e:Int) (w:World) (h:Rd w w.heap.size 6 A l.length (bg l)) (hb:l.length*48<=reachBytes):
    Calls Tryz.prog 60 #[.agg #[iV ro,iV ep,iV fr,iV tg,iV rd,.slice A l.length c],iV e] w (kI w (iR ⟨ro,ep,fr,tg,rd,l⟩ e)):=by
 have S:=(St.start w).bL h;have hb2:=hb;unfold reachBytes at hb2;refine gu 35 Tryz.func60 ?_;refine cw [0,1] ?_;refine zN 2 ?_;refine iH S ?_;intro b1 w2 S3;refine gq S3 fP ?_;intro b4 w5 S6;refine zN 7 ?_;refine cab eQ S6 (dZ ro ep fr tg rd A c l _ (St.rd 2 S6 rfl) oQ) ?_;intro w7 S8;refine zN 7 ?_;by_cases h10:au ⟨ro,ep,fr,tg,rd,l⟩=0
 ·have hsh:=(eO h10).1;unfold bq at hsh;have hln:=gJ (eO h10).2;dsimp only at hsh hln;refine zN 8 ?_;by_cases h11:e<1
  ·refine zN 11 ?_;refine vv jl ?_;refine sa 0 S8 kQ ?_;intro ZC uZ;refine zN 7 ?_;have kD:=uZ.aP [2,1,0];rw [show iR ⟨ro,ep,fr,tg,rd,l⟩ e=(⟨0,0,0,0,0,[]⟩,2) from by unfold iR;(try dsimp only);exact kL];exact ⟨none,0,lZ,rfl,aB kD⟩
  refine zN 3 ?_;by_cases h15:1048576<e
  ·refine zN 8 ?_;refine vv jl ?_;refine sa 0 S8 kQ ?_;intro w16 kP;refine zN 7 ?_;have jc:=kP.aP [2,1,0];rw [show iR ⟨ro,ep,fr,tg,rd,l⟩ e=(⟨0,0,0,0,0,[]⟩,2) from by unfold iR;(try dsimp only);exact kL];exact ⟨none,0,lZ,rfl,aB jc⟩
  refine zN 10 ?_;by_cases h19:ro=0
  ·refine zN 10 ?_;by_cases h20:e<=ep
   ·refine zN 7 ?_;refine vv jl ?_;refine sa 0 S8 kQ ?_;intro DW iX;refine zN 7 ?_;have oh:=iX.aP [2,1,0];rw [show iR ⟨ro,ep,fr,tg,rd,l⟩ e=(⟨0,0,0,0,0,[]⟩,15) from by unfold iR;(try dsimp only);exact kL];exact ⟨none,0,lZ,rfl,aB oh⟩
   refine zN 11 ?_;refine vv (v:= .agg #[iV 1,iV e,iV 0,iV 0,iV 0,.slice none 0 0]) gD ?_;refine sa 0 S8 kQ ?_;intro Oq jE;refine zN 5 ?_;have l6:=jE.aP [2,1,0];rw [show iR ⟨ro,ep,fr,tg,rd,l⟩ e=(⟨1,e,0,0,0,[]⟩,0) from by unfold iR;(try dsimp only);exact kL];exact ⟨none,0,lZ,rfl,aB l6⟩
  refine zN 7 ?_;refine vv jl ?_;refine sa 0 S8 kQ ?_;intro MW qy;refine zN 7 ?_;have qH:=qy.aP [2,1,0];rw [show iR ⟨ro,ep,fr,tg,rd,l⟩ e=(⟨0,0,0,0,0,[]⟩,8) from by unfold iR;(try dsimp only);exact kL];exact ⟨none,0,lZ,rfl,aB qH⟩
 refine zN 7 ?_;refine vv jl ?_;refine zQ ?_;refine sa 0 S8 kQ ?_;intro SS kV;refine zN 7 ?_;have pU:=kV.aP [2,1,0];rw [show iR ⟨ro,ep,fr,tg,rd,l⟩ e=(⟨0,0,0,0,0,[]⟩,au ⟨ro,ep,fr,tg,rd,l⟩) from by unfold iR;(try dsimp only);exact kL];exact ⟨none,0,lZ,rfl,aB pU⟩
theorem agy (ro ep fr tg rd:Int) (A:Option Addr) (c:Nat) (l:List Ev) (t:Int) (w:World) (h:Rd w w.heap.size 6 A l.length (bg l)) (hb:l.length*48<=reachBytes):
    Calls Tryz.prog 74 #[.agg #[iV ro,iV ep,iV fr,iV tg,iV rd,.slice A l.length c],iV t] w (kI w (zO ⟨ro,ep,fr,tg,rd,l⟩ t)):=by
 have S:=(St.start w).bL h;have hb2:=hb;unfold reachBytes at hb2;refine gu 44 Tryz.func74 ?_;refine cw [0,1] ?_;refine zN 2 ?_;refine iH S ?_;intro b1 w2 S3;refine gq S3 fP ?_;intro b4 w5 S6;refine zN 7 ?_;refine cab eQ S6 (dZ ro ep fr tg rd A c l _ (St.rd 2 S6 rfl) oQ) ?_;intro w7 S8;refine zN 7 ?_;by_cases h10:au ⟨ro,ep,fr,tg,rd,l⟩=0
 ·have hsh:=(eO h10).1;unfold bq at hsh;have hln:=gJ (eO h10).2;dsimp only at hsh hln;refine zN 8 ?_;by_cases atD:0<=t/\t<5
  ·have atE:=λ(w:World)=>kJ t w;rw [decide_eq_true atD] at atE;refine dF eQ (atE _) ?_;rintro _ Ey ⟨rfl,ah1⟩;refine ⟨_,rfl,?_⟩;have kD:=S8.on ah1;clear ah1 S8;refine zN 9 ?_;by_cases h16:ro=2
   ·refine zN 12 ?_;refine vv jl ?_;refine sa 0 kD kQ ?_;intro Lb jc;refine zN 7 ?_;have mq:=jc.aP [2,1,0];rw [show zO ⟨ro,ep,fr,tg,rd,l⟩ t=(⟨0,0,0,0,0,[]⟩,12) from by unfold zO;(try dsimp only);exact kL];exact ⟨none,0,lZ,rfl,aB mq⟩
   refine zN 4 ?_;by_cases h20:ro=3
   ·refine zN 8 ?_;refine vv jl ?_;refine sa 0 kD kQ ?_;intro DW iX;refine zN 7 ?_;have oh:=iX.aP [2,1,0];rw [show zO ⟨ro,ep,fr,tg,rd,l⟩ t=(⟨0,0,0,0,0,[]⟩,12) from by unfold zO;(try dsimp only);exact kL];exact ⟨none,0,lZ,rfl,aB oh⟩
   refine zN 10 ?_;by_cases QW:ro=1
   ·refine zN 9 ?_;by_cases uG:ep=1048576
    ·refine zN 7 ?_;refine vv jl ?_;refine sa 0 kD kQ ?_;intro Om tX;refine zN 7 ?_;have qy:=tX.aP [2,1,0];rw [show zO ⟨ro,ep,fr,tg,rd,l⟩ t=(⟨0,0,0,0,0,[]⟩,14) from by unfold zO;(try dsimp only);exact kL];exact ⟨none,0,lZ,rfl,aB qy⟩
    refine zN 12 ?_;refine Hz 1 kD kQ ?_;intro w29 Cj;refine zQ ?_;refine Hz 1 Cj kQ ?_;intro ZI pU;refine zN 5 ?_;refine dF eQ (jk 2 ep fr t rd A c l _ (St.rd 2 pU rfl) hb) ?_;rintro _ VO ⟨A33,c34,rfl,T37⟩;refine ⟨_,rfl,?_⟩;have nQ:=pU.ext T37 rfl;refine sa 1 nQ kQ ?_;intro w38 Ck;refine zN 5 ?_;have rY:=Ck.aP [3,2,1];have hcp:=(dY (rY.own 0 rfl)).1;have JL:=rY.bD 0 rfl;rw [show zO ⟨ro,ep,fr,tg,rd,l⟩ t=(⟨2,ep,fr,t,rd,l⟩,0) from by unfold zO;(try dsimp only);exact kL];exact ⟨A33,c34,lZ,rfl,JL⟩
   refine zN 7 ?_;refine vv jl ?_;refine sa 0 kD kQ ?_;intro VJ tT;refine zN 7 ?_;have Dc:=tT.aP [2,1,0];rw [show zO ⟨ro,ep,fr,tg,rd,l⟩ t=(⟨0,0,0,0,0,[]⟩,7) from by unfold zO;(try dsimp only);exact kL];exact ⟨none,0,lZ,rfl,aB Dc⟩
  have atF:=λ(w:World)=>kJ t w;rw [decide_eq_false atD] at atF;refine dF eQ (atF _) ?_;rintro _ VW ⟨rfl,hb48⟩;refine ⟨_,rfl,?_⟩;have yg:=S8.on hb48;clear hb48 S8;refine zN 7 ?_;refine vv jl ?_;refine sa 0 yg kQ ?_;intro VP oU;refine zN 7 ?_;have uX:=oU.aP [2,1,0];rw [show zO ⟨ro,ep,fr,tg,rd,l⟩ t=(⟨0,0,0,0,0,[]⟩,2) from by unfold zO;(try dsimp only);exact kL];exact ⟨none,0,lZ,rfl,aB uX⟩
 refine zN 7 ?_;refine vv jl ?_;refine zQ ?_;refine sa 0 S8 kQ ?_;intro w52 zP;refine zN 7 ?_;have l7:=zP.aP [2,1,0];rw [show zO ⟨ro,ep,fr,tg,rd,l⟩ t=(⟨0,0,0,0,0,[]⟩,au ⟨ro,ep,fr,tg,rd,l⟩) from by unfold zO;(try dsimp only);exact kL];exact ⟨none,0,lZ,rfl,aB l7⟩
theorem Ra (ro ep fr tg rd:Int) (A:Option Addr) (c:Nat) (l:List Ev) (hv:Int) (w:World) (h:Rd w w.heap.size 6 A l.length (bg l)) (hb:l.length*48<=reachBytes):
    Calls Tryz.prog 122 #[.agg #[iV ro,iV ep,iV fr,iV tg,iV rd,.slice A l.length c],iV hv] w (kI w (bK ⟨ro,ep,fr,tg,rd,l⟩ hv)):=by
 have S:=(St.start w).bL h;have hb2:=hb;unfold reachBytes at hb2;refine gu 55 Tryz.func122 ?_;refine cw [0,1] ?_;refine zN 2 ?_;refine iH S ?_;intro b1 w2 S3;refine gq S3 fP ?_;intro b4 w5 S6;refine zN 7 ?_;refine cab eQ S6 (dZ ro ep fr tg rd A c l _ (St.rd 2 S6 rfl) oQ) ?_;intro w7 S8;refine zN 6 ?_;by_cases h10:au ⟨ro,ep,fr,tg,rd,l⟩=0
 ·have hsh:=(eO h10).1;unfold bq at hsh;have hln:=gJ (eO h10).2;dsimp only at hsh hln;refine zN 11 ?_;by_cases h11:ro=2
  ·refine zN 15 ?_;by_cases h12:hv<0
   ·refine zN 13 ?_;refine vv jl ?_;refine sa 0 S8 kQ ?_;intro Ey kD;refine zN 6 ?_;have iG:=kD.aP [2,1,0];rw [show bK ⟨ro,ep,fr,tg,rd,l⟩ hv=(⟨0,0,0,0,0,[]⟩,2) from by unfold bK;(try dsimp only);exact kL];exact ⟨none,0,lZ,rfl,aB iG⟩
   refine zN 6 ?_;by_cases h16:((l.length:Nat):Int)<hv
   ·refine zN 7 ?_;refine vv jl ?_;refine sa 0 S8 kQ ?_;intro Lb jc;refine zN 6 ?_;have mq:=jc.aP [2,1,0];rw [show bK ⟨ro,ep,fr,tg,rd,l⟩ hv=(⟨0,0,0,0,0,[]⟩,2) from by unfold bK;(try dsimp only);exact kL];exact ⟨none,0,lZ,rfl,aB mq⟩
   refine zN 24 ?_;by_cases h20:hv=((l.length:Nat):Int)
   ·refine zN 12 ?_;refine Hz 1 S8 kQ ?_;intro DW iX;refine zQ ?_;refine Hz 1 iX kQ ?_;intro H9 iP;refine zN 6 ?_;refine dF eQ (jk 3 ep fr tg 0 A c l _ (St.rd 2 iP rfl) hb) ?_;rintro _ MW ⟨A25,c26,rfl,T29⟩;refine ⟨_,rfl,?_⟩;have qy:=iP.ext T29 rfl;refine sa 1 qy kQ ?_;intro SS kV;refine zN 5 ?_;have pU:=kV.aP [3,2,1];have hcp:=(dY (pU.own 0 rfl)).1;have rW:=pU.bD 0 rfl;rw [show bK ⟨ro,ep,fr,tg,rd,l⟩ hv=(⟨3,ep,fr,tg,0,l⟩,0) from by unfold bK;(try dsimp only);exact kL];exact ⟨A25,c26,lZ,rfl,rW⟩
   refine zN 4 ?_;by_cases h34:rd=4
   ·refine zN 8 ?_;refine Hz 1 S8 kQ ?_;intro VO nQ;refine zQ ?_;refine Hz 1 nQ kQ ?_;intro Te qJ;refine zN 6 ?_;refine dF eQ (jk 3 ep fr tg 0 A c l _ (St.rd 2 qJ rfl) hb) ?_;rintro _ w41 ⟨Ik,c40,rfl,T43⟩;refine ⟨_,rfl,?_⟩;have wo:=qJ.ext T43 rfl;refine sa 1 wo kQ ?_;intro QX nX;refine zN 5 ?_;have rX:=nX.aP [3,2,1];have hcp:=(dY (rX.own 0 rfl)).1;have yg:=rX.bD 0 rfl;rw [show bK ⟨ro,ep,fr,tg,rd,l⟩ hv=(⟨3,ep,fr,tg,0,l⟩,0) from by unfold bK;(try dsimp only);exact kL];exact ⟨Ik,c40,lZ,rfl,yg⟩
   refine zN 9 ?_;refine vv (v:=iV (rd+1)) fJ ?_;refine zQ ?_;refine Hz 1 S8 kQ ?_;intro ZG uF;refine zN 6 ?_;refine dF eQ (jk ro ep fr tg (rd+1) A c l _ (St.rd 2 uF rfl) hb) ?_;rintro _ w52 ⟨ZH,c51,rfl,T54⟩;refine ⟨_,rfl,?_⟩;have zP:=uF.ext T54 rfl;refine sa 1 zP kQ ?_;intro w55 F4;refine zN 5 ?_;have qW:=F4.aP [3,2,1];have hcp:=(dY (qW.own 0 rfl)).1;have D6:=qW.bD 0 rfl;rw [show bK ⟨ro,ep,fr,tg,rd,l⟩ hv=(⟨ro,ep,fr,tg,rd+1,l⟩,0) from by unfold bK;(try dsimp only);exact kL];exact ⟨ZH,c51,lZ,rfl,D6⟩
  refine zN 4 ?_;by_cases h59:ro=3
  ·refine zN 11 ?_;by_cases h60:hv<0
   ·refine zN 13 ?_;refine vv jl ?_;refine sa 0 S8 kQ ?_;intro w61 GN;refine zN 6 ?_;have vP:=GN.aP [2,1,0];rw [show bK ⟨ro,ep,fr,tg,rd,l⟩ hv=(⟨0,0,0,0,0,[]⟩,2) from by unfold bK;(try dsimp only);exact kL];exact ⟨none,0,lZ,rfl,aB vP⟩
   refine zN 6 ?_;by_cases h64:((l.length:Nat):Int)<hv
   ·refine zN 7 ?_;refine vv jl ?_;refine sa 0 S8 kQ ?_;intro w65 F3;refine zN 6 ?_;have uD:=F3.aP [2,1,0];rw [show bK ⟨ro,ep,fr,tg,rd,l⟩ hv=(⟨0,0,0,0,0,[]⟩,2) from by unfold bK;(try dsimp only);exact kL];exact ⟨none,0,lZ,rfl,aB uD⟩
   refine zN 24 ?_;refine dF eQ (jk ro ep fr tg rd A c l _ (St.rd 2 S8 rfl) hb) ?_;rintro _ Zz ⟨A68,c69,rfl,T72⟩;refine ⟨_,rfl,?_⟩;have lu:=S8.ext T72 rfl;refine sa 1 lu kQ ?_;intro w73 Lc;refine zN 5 ?_;have Ew:=Lc.aP [3,2,1];have hcp:=(dY (Ew.own 0 rfl)).1;have MZ:=Ew.bD 0 rfl;rw [show bK ⟨ro,ep,fr,tg,rd,l⟩ hv=(⟨ro,ep,fr,tg,rd,l⟩,0) from by unfold bK;(try dsimp only);exact kL];exact ⟨A68,c69,lZ,rfl,MZ⟩
  refine zN 7 ?_;refine vv jl ?_;refine sa 0 S8 kQ ?_;intro w77 GU;refine zN 6 ?_;have Ci:=GU.aP [2,1,0];rw [show bK ⟨ro,ep,fr,tg,rd,l⟩ hv=(⟨0,0,0,0,0,[]⟩,7) from by unfold bK;(try dsimp only);exact kL];exact ⟨none,0,lZ,rfl,aB Ci⟩
 refine zN 6 ?_;refine vv jl ?_;refine zQ ?_;refine sa 0 S8 kQ ?_;intro w80 tV;refine zN 6 ?_;have S82:=tV.aP [2,1,0];rw [show bK ⟨ro,ep,fr,tg,rd,l⟩ hv=(⟨0,0,0,0,0,[]⟩,au ⟨ro,ep,fr,tg,rd,l⟩) from by unfold bK;(try dsimp only);exact kL];exact ⟨none,0,lZ,rfl,aB S82⟩
theorem Il (ro ep fr tg rd:Int) (A:Option Addr) (c:Nat) (l:List Ev) (e f:Int) (w:World) (h:Rd w w.heap.size 6 A l.length (bg l)) (hb:l.length*48<=reachBytes):
    Calls Tryz.prog 119 #[.agg #[iV ro,iV ep,iV fr,iV tg,iV rd,.slice A l.length c],iV e,iV f] w (kI w (dG ⟨ro,ep,fr,tg,rd,l⟩ e f)):=by
 have S:=(St.start w).bL h;have hb2:=hb;unfold reachBytes at hb2;refine gu 66 Tryz.func119 ?_;refine cw [0,1,2] ?_;refine zN 2 ?_;refine iH S ?_;intro b1 w2 S3;refine gq S3 fP ?_;intro b4 w5 S6;refine zN 7 ?_;refine cab eQ S6 (dZ ro ep fr tg rd A c l _ (St.rd 2 S6 rfl) oQ) ?_;intro w7 S8;refine zN 7 ?_;by_cases h10:au ⟨ro,ep,fr,tg,rd,l⟩=0
 ·have hsh:=(eO h10).1;unfold bq at hsh;have hln:=gJ (eO h10).2;dsimp only at hsh hln;refine zN 8 ?_;by_cases h11:e<1
  ·refine zN 16 ?_;refine vv jl ?_;refine sa 0 S8 kQ ?_;intro ZC uZ;refine zN 7 ?_;have kD:=uZ.aP [2,1,0];rw [show dG ⟨ro,ep,fr,tg,rd,l⟩ e f=(⟨0,0,0,0,0,[]⟩,2) from by unfold dG;(try dsimp only);exact kL];exact ⟨none,0,lZ,rfl,aB kD⟩
  refine zN 3 ?_;by_cases h15:1048576<e
  ·refine zN 13 ?_;refine vv jl ?_;refine sa 0 S8 kQ ?_;intro w16 kP;refine zN 7 ?_;have jc:=kP.aP [2,1,0];rw [show dG ⟨ro,ep,fr,tg,rd,l⟩ e f=(⟨0,0,0,0,0,[]⟩,2) from by unfold dG;(try dsimp only);exact kL];exact ⟨none,0,lZ,rfl,aB jc⟩
  refine zN 4 ?_;by_cases abx:0<=f/\f<5
  ·have aby:=λ(w:World)=>kJ f w;rw [decide_eq_true abx] at aby;refine xY eQ (aby _) ?_;rintro _ DW ⟨rfl,abz⟩;refine ⟨_,rfl,?_⟩;have iX:=S8.on abz;clear abz S8;refine zN 10 ?_;by_cases QW:ro=0
   ·refine zN 36 ?_;by_cases uG:e<=ep
    ·refine zN 7 ?_;refine vv jl ?_;refine sa 0 iX kQ ?_;intro Om tX;refine zN 7 ?_;have qy:=tX.aP [2,1,0];rw [show dG ⟨ro,ep,fr,tg,rd,l⟩ e f=(⟨0,0,0,0,0,[]⟩,15) from by unfold dG;(try dsimp only);exact kL];exact ⟨none,0,lZ,rfl,aB qy⟩
    refine zN 12 ?_;refine vv (v:= .agg #[iV 4,iV e,iV f,iV 0,iV 0,.slice none 0 0]) gD ?_;refine sa 0 iX kQ ?_;intro w29 Cj;refine zN 5 ?_;have kV:=Cj.aP [2,1,0];rw [show dG ⟨ro,ep,fr,tg,rd,l⟩ e f=(⟨4,e,f,0,0,[]⟩,0) from by unfold dG;(try dsimp only);exact kL];exact ⟨none,0,lZ,rfl,aB kV⟩
   refine zN 4 ?_;by_cases h32:ro=4
   ·refine zN 15 ?_;by_cases h33:ep=e
    ·refine zN 6 ?_;by_cases h34:fr=f
     ·refine zN 9 ?_;refine dF eQ (jk ro ep fr tg rd A c l _ (St.rd 2 iX rfl) hb) ?_;rintro _ Te ⟨M4,M5,rfl,T39⟩;refine ⟨_,rfl,?_⟩;have qJ:=iX.ext T39 rfl;refine sa 1 qJ kQ ?_;intro w40 JL;refine zN 7 ?_;have wo:=JL.aP [3,2,1];have hcp:=(dY (wo.own 0 rfl)).1;have tT:=wo.bD 0 rfl;rw [show dG ⟨ro,ep,fr,tg,rd,l⟩ e f=(⟨ro,ep,fr,tg,rd,l⟩,0) from by unfold dG;(try dsimp only);exact kL];exact ⟨M4,M5,lZ,rfl,tT⟩
     refine zN 11 ?_;by_cases h44:e<=ep
     ·refine zN 7 ?_;refine vv jl ?_;refine sa 0 iX kQ ?_;intro w45 rX;refine zN 7 ?_;have yg:=rX.aP [2,1,0];rw [show dG ⟨ro,ep,fr,tg,rd,l⟩ e f=(⟨0,0,0,0,0,[]⟩,15) from by unfold dG;(try dsimp only);exact kL];exact ⟨none,0,lZ,rfl,aB yg⟩
     refine zN 12 ?_;refine vv (v:= .agg #[iV 4,iV e,iV f,iV 0,iV 0,.slice none 0 0]) gD ?_;refine sa 0 iX kQ ?_;intro ZG uF;refine zN 5 ?_;have oU:=uF.aP [2,1,0];rw [show dG ⟨ro,ep,fr,tg,rd,l⟩ e f=(⟨4,e,f,0,0,[]⟩,0) from by unfold dG;(try dsimp only);exact kL];exact ⟨none,0,lZ,rfl,aB oU⟩
    refine zN 17 ?_;by_cases h51:e<=ep
    ·refine zN 7 ?_;refine vv jl ?_;refine sa 0 iX kQ ?_;intro w52 zP;refine zN 7 ?_;have l7:=zP.aP [2,1,0];rw [show dG ⟨ro,ep,fr,tg,rd,l⟩ e f=(⟨0,0,0,0,0,[]⟩,15) from by unfold dG;(try dsimp only);exact kL];exact ⟨none,0,lZ,rfl,aB l7⟩
    refine zN 12 ?_;refine vv (v:= .agg #[iV 4,iV e,iV f,iV 0,iV 0,.slice none 0 0]) gD ?_;refine sa 0 iX kQ ?_;intro w55 F4;refine zN 5 ?_;have qW:=F4.aP [2,1,0];rw [show dG ⟨ro,ep,fr,tg,rd,l⟩ e f=(⟨4,e,f,0,0,[]⟩,0) from by unfold dG;(try dsimp only);exact kL];exact ⟨none,0,lZ,rfl,aB qW⟩
   refine zN 8 ?_;refine vv jl ?_;refine sa 0 iX kQ ?_;intro w58 Ar;refine zN 7 ?_;have VX:=Ar.aP [2,1,0];rw [show dG ⟨ro,ep,fr,tg,rd,l⟩ e f=(⟨0,0,0,0,0,[]⟩,8) from by unfold dG;(try dsimp only);exact kL];exact ⟨none,0,lZ,rfl,aB VX⟩
  have atJ:=λ(w:World)=>kJ f w;rw [decide_eq_false abx] at atJ;refine xY eQ (atJ _) ?_;rintro _ VQ ⟨rfl,atK⟩;refine ⟨_,rfl,?_⟩;have vP:=S8.on atK;clear atK S8;refine zN 8 ?_;refine vv jl ?_;refine sa 0 vP kQ ?_;intro w65 F3;refine zN 7 ?_;have uD:=F3.aP [2,1,0];rw [show dG ⟨ro,ep,fr,tg,rd,l⟩ e f=(⟨0,0,0,0,0,[]⟩,2) from by unfold dG;(try dsimp only);exact kL];exact ⟨none,0,lZ,rfl,aB uD⟩
 refine zN 7 ?_;refine vv jl ?_;refine zQ ?_;refine sa 0 S8 kQ ?_;intro w68 uE;refine zN 7 ?_;have uh:=uE.aP [2,1,0];rw [show dG ⟨ro,ep,fr,tg,rd,l⟩ e f=(⟨0,0,0,0,0,[]⟩,au ⟨ro,ep,fr,tg,rd,l⟩) from by unfold dG;(try dsimp only);exact kL];exact ⟨none,0,lZ,rfl,aB uh⟩
theorem F5 (ro ep fr tg rd:Int) (A:Option Addr) (c:Nat) (l:List Ev) (e:Int) (w:World) (h:Rd w w.heap.size 6 A l.length (bg l)) (hb:l.length*48<=reachBytes):
    Calls Tryz.prog 127 #[.agg #[iV ro,iV ep,iV fr,iV tg,iV rd,.slice A l.length c],iV e] w (kI w (fZ ⟨ro,ep,fr,tg,rd,l⟩ e)):=by
 have S:=(St.start w).bL h;have hb2:=hb;unfold reachBytes at hb2;refine gu 28 Tryz.func127 ?_;refine cw [0,1] ?_;refine zN 2 ?_;refine iH S ?_;intro b1 w2 S3;refine gq S3 fP ?_;intro b4 w5 S6;refine zN 7 ?_;refine cab eQ S6 (dZ ro ep fr tg rd A c l _ (St.rd 2 S6 rfl) oQ) ?_;intro w7 S8;refine zN 7 ?_;by_cases h10:au ⟨ro,ep,fr,tg,rd,l⟩=0
 ·have hsh:=(eO h10).1;unfold bq at hsh;have hln:=gJ (eO h10).2;dsimp only at hsh hln;refine zN 9 ?_;by_cases h11:ro=3
  ·refine zN 10 ?_;by_cases h12:e<=ep
   ·refine zN 7 ?_;refine vv jl ?_;refine sa 0 S8 kQ ?_;intro Ey kD;refine zN 7 ?_;have iG:=kD.aP [2,1,0];rw [show fZ ⟨ro,ep,fr,tg,rd,l⟩ e=(⟨0,0,0,0,0,[]⟩,15) from by unfold fZ;(try dsimp only);exact kL];exact ⟨none,0,lZ,rfl,aB iG⟩
   refine zN 12 ?_;refine vv (v:= .agg #[iV 0,iV ep,iV 0,iV 0,iV 0,.slice none 0 0]) gD ?_;refine sa 0 S8 kQ ?_;intro w16 kP;refine zN 5 ?_;have jc:=kP.aP [2,1,0];rw [show fZ ⟨ro,ep,fr,tg,rd,l⟩ e=(⟨0,ep,0,0,0,[]⟩,0) from by unfold fZ;(try dsimp only);exact kL];exact ⟨none,0,lZ,rfl,aB jc⟩
  refine zN 7 ?_;refine vv jl ?_;refine sa 0 S8 kQ ?_;intro FX mM;refine zN 7 ?_;have tZ:=mM.aP [2,1,0];rw [show fZ ⟨ro,ep,fr,tg,rd,l⟩ e=(⟨0,0,0,0,0,[]⟩,7) from by unfold fZ;(try dsimp only);exact kL];exact ⟨none,0,lZ,rfl,aB tZ⟩
 refine zN 7 ?_;refine vv jl ?_;refine zQ ?_;refine sa 0 S8 kQ ?_;intro w22 oh;refine zN 7 ?_;have iP:=oh.aP [2,1,0];rw [show fZ ⟨ro,ep,fr,tg,rd,l⟩ e=(⟨0,0,0,0,0,[]⟩,au ⟨ro,ep,fr,tg,rd,l⟩) from by unfold fZ;(try dsimp only);exact kL];exact ⟨none,0,lZ,rfl,aB iP⟩
section
variable {b:bn} {k m:Nat}
theorem BK (h:au b=0) (hr:b.role=2\/b.role=3) (hk:k<=b.evs.length) (hm:min (k+3) b.evs.length=k+m):iK b k=((b.evs.drop k).take m,decide (b.role=3/\k+m=b.evs.length),0):=by
 unfold iK;rw [if_neg (λh1=>h1 h),if_neg oQ,if_neg oQ];refine Prod.ext ?_ (Prod.ext ?_ rfl)
 ·simp only [Int.toNat_natCast];rw [List.take_eq_take_iff,List.length_drop];omega
 simp only [Int.toNat_natCast]
 congr 1
 exact propext ⟨λh=>⟨h.1,by omega⟩,λh=>⟨h.1,by omega⟩⟩
end
theorem Kr {b:bn} {e:Ev} (h:au b=0) (h1:aX e=0) (h2: ¬ e.kind=4) (h3:b.role=1\/b.role=2):gP b e=
  if (iw (av b.evs).1 e).2.2.1=false then (b,(iw (av b.evs).1 e).2.1,false,0) else if 1999<=b.evs.length then (b,qU 14,false,0) else ({ b with evs:=b.evs++[e] },(iw (av b.evs).1 e).2.1,true,0):=by
 unfold gP;rw [if_neg (λh1=>h1 h),if_neg (λh=>h h1),if_neg h2,if_neg oQ,if_neg oQ]
theorem D7 (ro ep fr tg rd:Int) (A:Option Addr) (c:Nat) (l:List Ev) (w:World) (h:Rd w w.heap.size 6 A l.length (bg l)) (hl:l.length<=1152921504606846976):
    Calls tP 92 #[.agg #[iV ro,iV ep,iV fr,iV tg,iV rd,.slice A l.length c]] w (FW w (decide (ro=1\/ro=2))):=by
 have S:=(St.start w).bL h;refine gu 11 Tryz.func92 ?_;refine cw [0] ?_;refine zN 2 ?_;refine iH S ?_;intro b1 w2 S3;refine zN 7 ?_;by_cases h4:ro=1
 ·refine zN 11 ?_;exact ⟨congrArg (λb=>Ending.returned (.bool b)) (decide_eq_true oQ).symm,S3.low⟩
 refine zN 4 ?_;by_cases h5:ro=2
 ·refine zN 7 ?_;exact ⟨congrArg (λb=>Ending.returned (.bool b)) (decide_eq_true oQ).symm,S3.low⟩
 refine zN 7 ?_;exact ⟨congrArg (λb=>Ending.returned (.bool b)) (decide_eq_false oQ).symm,S3.low⟩
theorem Yj (ro ep fr tg rd:Int) (A:Option Addr) (c:Nat) (l:List Ev) (w:World) (h:Rd w w.heap.size 6 A l.length (bg l)) (hb:l.length*48<=reachBytes):
    Calls tP 71 #[.agg #[iV ro,iV ep,iV fr,iV tg,iV rd,.slice A l.length c]] w (kI w (dV ⟨ro,ep,fr,tg,rd,l⟩)):=by
 have S:=(St.start w).bL h;have hb2:=hb;unfold reachBytes at hb2;refine gu 30 Tryz.func71 ?_;refine cw [0] ?_;refine zN 2 ?_;refine iH S ?_;intro b1 w2 S3;refine gq S3 fP ?_;intro b4 w5 S6;refine zN 7 ?_;refine cab eQ S6 (dZ ro ep fr tg rd A c l _ (St.rd 2 S6 rfl) oQ) ?_;intro w7 S8;refine zN 6 ?_;by_cases h10:au ⟨ro,ep,fr,tg,rd,l⟩=0
 ·have hsh:=(eO h10).1;unfold bq at hsh;have hln:=gJ (eO h10).2;dsimp only at hsh hln;refine zN 10 ?_;have HC:=λ(w:World) (h:Rd w w.heap.size 6 A l.length (bg l))=>D7 ro ep fr tg rd A c l w h oQ;by_cases hsv:ro=1\/ro=2
  ·rw [decide_eq_true hsv] at HC;refine dF eQ (HC _ (St.rd 2 S8 rfl)) ?_;rintro _ GI ⟨rfl,aia⟩;refine ⟨_,rfl,?_⟩;have l5:=S8.on aia;clear aia S8;refine zN 12 ?_;refine vv (v:= .agg #[iV 1,iV ep,iV 0,iV 0,iV 0,.slice A l.length c]) gD ?_;refine vv (v:= .agg #[iV 4,iV 0,iV 0,iV 0,iV 0,iV 0]) gD ?_;refine NY l5 ?_;intro b14 JV lV;refine dF eQ (rE 1 ep 0 0 0 A c l (aD b14 0) 1 [aI] _ (St.rd 3 lV rfl) (St.lD (xs:=bg [aI]) 0 lV rfl rfl rfl) (by simp only [List.length_cons,List.length_nil];unfold reachBytes;omega)) ?_;rintro _ FX ⟨M6,c18,rfl,T21⟩;refine ⟨_,rfl,?_⟩;have mM:=lV.ext T21 rfl;refine gq mM fP ?_;intro Ta H9 iP;refine sa 0 iP kQ ?_;intro w25 l6;refine zN 6 ?_;refine cab eQ l6 (dZ 1 ep 0 0 0 M6 c18 (l++[aI]) _ (St.ord 1 l6 rfl) (by simp only [List.length_append,List.length_cons,List.length_nil,List.length_drop];omega)) ?_;intro MW qy;by_cases h30:au ⟨1,ep,0,0,0,l++[aI]⟩=0
   ·have hsh:=(eO h30).1;unfold bq at hsh;have hln:=gJ (eO h30).2;dsimp only at hsh hln;refine zN 9 ?_;refine sa 3 qy kQ ?_;intro ZI pU;refine zN 5 ?_;have rW:=pU.aP [5,4,3,2,0];have hcp:=(dY (rW.own 0 rfl)).1;have qo:=rW.bD 0 rfl;rw [show dV ⟨ro,ep,fr,tg,rd,l⟩=(⟨1,ep,0,0,0,l++[aI]⟩,0) from by unfold dV;(try dsimp only);exact kL];exact ⟨M6,c18,lZ,rfl,qo⟩
   refine zN 6 ?_;refine vv jl ?_;refine sa 3 qy kQ ?_;intro VO nQ;refine zN 6 ?_;have qz:=nQ.aP [5,4,3,2,1,0];rw [show dV ⟨ro,ep,fr,tg,rd,l⟩=(⟨0,0,0,0,0,[]⟩,14) from by unfold dV;(try dsimp only);exact kL];exact ⟨none,0,lZ,rfl,aB qz⟩
  rw [decide_eq_false hsv] at HC;refine dF eQ (HC _ (St.rd 2 S8 rfl)) ?_;rintro _ w38 ⟨rfl,abD⟩;refine ⟨_,rfl,?_⟩;have Ck:=S8.on abD;clear abD S8;refine zN 7 ?_;refine dF eQ (jk ro ep fr tg rd A c l _ (St.rd 2 Ck rfl) hb) ?_;rintro _ w43 ⟨ZJ,Rb,rfl,T45⟩;refine ⟨_,rfl,?_⟩;have Dc:=Ck.ext T45 rfl;refine sa 1 Dc kQ ?_;intro VW yg;refine zN 6 ?_;have vO:=yg.aP [3,2,1];have hcp:=(dY (vO.own 0 rfl)).1;have uF:=vO.bD 0 rfl;rw [show dV ⟨ro,ep,fr,tg,rd,l⟩=(⟨ro,ep,fr,tg,rd,l⟩,0) from by unfold dV;(try dsimp only);exact kL];exact ⟨ZJ,Rb,lZ,rfl,uF⟩
 refine zN 6 ?_;refine vv jl ?_;refine zQ ?_;refine sa 0 S8 kQ ?_;intro VK uX;refine zN 6 ?_;have lU:=uX.aP [2,1,0];rw [show dV ⟨ro,ep,fr,tg,rd,l⟩=(⟨0,0,0,0,0,[]⟩,au ⟨ro,ep,fr,tg,rd,l⟩) from by unfold dV;(try dsimp only);exact kL];exact ⟨none,0,lZ,rfl,aB lU⟩
theorem U5 (ro ep fr tg rd:Int) (A:Option Addr) (c:Nat) (l:List Ev) (x:Ev) (w:World) (h:Rd w w.heap.size 6 A l.length (bg l)) (hb:l.length*48<=reachBytes):
    Calls tP 116 #[.agg #[iV ro,iV ep,iV fr,iV tg,iV rd,.slice A l.length c],.agg #[iV x.kind,iV x.producer,iV x.id,iV x.body,iV x.aG,iV x.hno]] w (abw w (gP ⟨ro,ep,fr,tg,rd,l⟩ x)):=by
 have S:=(St.start w).bL h;have hb2:=hb;unfold reachBytes at hb2;refine gu 80 Tryz.func116 ?_;refine cw [0,1] ?_;refine zN 2 ?_;refine iH S ?_;intro b1 w2 S3;refine iH S3 ?_;intro b4 w5 S6;refine gq S6 fP ?_;intro b7 w8 S9;refine gq S9 sZ ?_;intro b10 GI l5;refine zN 8 ?_;refine cab eQ l5 (dZ ro ep fr tg rd A c l _ (St.rd 4 l5 rfl) oQ) ?_;intro Ey kD;refine zN 6 ?_;by_cases h16:au ⟨ro,ep,fr,tg,rd,l⟩=0
 ·have hsh:=(eO h16).1;unfold bq at hsh;have hln:=gJ (eO h16).2;dsimp only at hsh hln;refine zN 10 ?_;refine cab eQ kD (Ib x _) ?_;intro Lb jc;refine zN 6 ?_;by_cases h20:aX x=0
  ·refine zN 11 ?_;by_cases hk4:x.kind=4
   ·refine zN 6 ?_;refine vv jl ?_;refine zQ ?_;refine sa 1 jc kQ ?_;intro DW iX;refine sa 0 iX kQ ?_;intro H9 iP;refine zN 6 ?_;refine dS (rs:=[.cell 4 57,.cell 5 67,.tmp 6,.tmp 7]) (vs:=[.agg zB,.agg #[iV 0,iV 0,iV 0,iV 0],.bool false,iV 3]) rfl ⟨⟨_,rfl,eT 1 iP rfl Tryz.underlying57 rfl kQ⟩,⟨_,rfl,eT 0 iP rfl Tryz.underlying67 rfl kQ⟩,rfl,rfl,trivial⟩ ?_;have jE:=iP.aP [4,3,2,1,0];rw [show gP ⟨ro,ep,fr,tg,rd,l⟩ x=(⟨0,0,0,0,0,[]⟩,⟨0,0,0,0⟩,false,3) from by unfold gP;(try dsimp only);exact kL];exact ⟨none,0,lZ,rfl,aB jE⟩
   refine zN 12 ?_;by_cases h26:ro=3
   ·refine zN 8 ?_;refine dF eQ (jk ro ep fr tg rd A c l _ (St.rd 4 jc rfl) hb) ?_;rintro _ w29 ⟨A27,c28,rfl,T31⟩;refine ⟨_,rfl,?_⟩;have Cj:=jc.ext T31 rfl;refine vv (v:= .agg #[iV 12,iV 0,iV 0,iV 0]) gD ?_;refine sa 2 Cj kQ ?_;intro w32 rW;refine sa 1 rW kQ ?_;intro w34 uf;refine zN 7 ?_;refine dS (rs:=[.cell 4 57,.cell 5 67,.tmp 6,.tmp 7]) (vs:=[.agg #[iV ro,iV ep,iV fr,iV tg,iV rd,.slice A27 l.length c28],.agg #[iV 12,iV 0,iV 0,iV 0],.bool false,iV 0]) rfl ⟨⟨_,rfl,eT 2 uf rfl Tryz.underlying57 rfl kQ⟩,⟨_,rfl,eT 1 uf rfl Tryz.underlying67 rfl kQ⟩,rfl,rfl,trivial⟩ ?_;have nQ:=uf.aP [5,4,3,2,1];have hcp:=(dY (nQ.own 0 rfl)).1;have qz:=nQ.bD 0 rfl;rw [show gP ⟨ro,ep,fr,tg,rd,l⟩ x=(⟨ro,ep,fr,tg,rd,l⟩,⟨12,0,0,0⟩,false,0) from by unfold gP;(try dsimp only);exact kL];exact ⟨A27,c28,lZ,rfl,qz⟩
   refine zN 8 ?_;have HC:=λ(w:World) (h:Rd w w.heap.size 6 A l.length (bg l))=>D7 ro ep fr tg rd A c l w h oQ;by_cases hsv:ro=1\/ro=2
   ·rw [decide_eq_true hsv] at HC;refine dF eQ (HC _ (St.rd 4 jc rfl)) ?_;rintro _ w38 ⟨rfl,abD⟩;refine ⟨_,rfl,?_⟩;have Ck:=jc.on abD;clear abD jc;refine zN 12 ?_;refine dF eQ (zS A c l _ (St.rd 4 Ck rfl) oQ) ?_;rintro _ w45 ⟨ZJ,Rb,A43,c44,rfl,T47⟩;refine ⟨_,rfl,?_⟩;have rX:=Ck.ext T47 rfl;refine zN 3 ?_;refine jC (V:=λb=>pV b 0) (row:=bI 0 0 0 (.slice none 0 0) (.slice none 0 0) fF) (t:=47) rX (wn rfl) rfl rfl (dO rfl (Tryz.zeroValue47 _) rfl) ?_;intro Rc VP oU;refine saq 0 oU kQ ?_;intro SX lU;refine zN 7 ?_;obtain ⟨R,hR⟩: ∃ R,iw (av l).1 x=R:=⟨_,rfl⟩;have hql:=Ya (l:=l);have HD:=λA1 A2 c1 c2 w h1 h2=>mO (av l).1.ep (av l).1.nx (av l).1.gv x.kind x.producer x.id x.body x.aG x.hno A1 A2 c1 c2 (av l).1.ready (av l).1.aA (av l).1.ws w h1 h2 hQ hQ;rw [show iw ⟨(av l).1.ep,(av l).1.nx,(av l).1.gv,(av l).1.ready,(av l).1.aA,(av l).1.ws⟩ ⟨x.kind,x.producer,x.id,x.body,x.aG,x.hno⟩=R from hR] at HD;refine dF eQ (HD ZJ A43 Rb c44 _ (St.bJ 1 lU rfl) (St.bJ 2 lU rfl)) ?_;rintro _ w57 ⟨A53,c54,A55,c56,rfl,T59⟩;refine ⟨_,rfl,?_⟩;have D6:=lU.ext T59 rfl;clear HD;refine zN 5 ?_;refine jC (V:=λb=>pV b 0) (row:=bI 0 0 0 (.slice none 0 0) (.slice none 0 0) fF) (t:=47) D6 (wn rfl) rfl rfl (dO rfl (Tryz.zeroValue47 _) rfl) ?_;intro b60 w61 GN;refine gq GN sZ ?_;intro b63 ZK Bd;refine saq 1 Bd kQ ?_;intro VL uD;refine sa 0 uD kQ ?_;intro w68 uE;refine zN 8 ?_
    cases hch:R.2.2.1
    ·refine zN 5 ?_;have uh:=uE.drew;refine aN 7 uh [8,7] ?_;refine aL 2 ?_;refine aU 1 ?_;refine jI 1 rfl eQ (jk ro ep fr tg rd A c l _ (St.rd 11 uh rfl) hb) ?_;rintro _ w75 ⟨A73,c74,rfl,T77⟩;refine ⟨_,rfl,?_⟩;have MZ:=uh.ext T77 rfl;refine cO ?_;refine aU 3 ?_;refine sn 3 rfl 9 MZ kQ ?_;intro w78 Ci;refine cO ?_;refine aU 4 ?_;refine sn 4 rfl 8 Ci kQ ?_;intro w80 tV;refine aL 4 ?_;refine zN 3 ?_;refine dS (rs:=[.cell 4 57,.cell 5 67,.tmp 6,.tmp 7]) (vs:=[.agg #[iV ro,iV ep,iV fr,iV tg,iV rd,.slice A73 l.length c74],.agg #[iV R.2.1.code,iV R.2.1.eF,iV R.2.1.hno,iV R.2.1.body],.bool false,iV 0]) rfl ⟨⟨_,rfl,eT 9 tV rfl Tryz.underlying57 rfl kQ⟩,⟨_,rfl,eT 8 tV rfl Tryz.underlying67 rfl kQ⟩,rfl,rfl,trivial⟩ ?_;have FZ:=tV.aP [12,11,10,9,8,7,6,5,4,3,2,1];have hcp:=(dY (FZ.own 0 rfl)).1;have JW:=FZ.bD 0 rfl;rw [Kr (b:=⟨ro,ep,fr,tg,rd,l⟩) (e:=x) h16 h20 hk4 hsv,hR];rw [if_pos hch];exact ⟨A73,c74,lZ,rfl,JW⟩
    refine zN 12 ?_;by_cases atO:1999<=l.length
    ·refine zN 7 ?_;refine dF eQ (jk ro ep fr tg rd A c l _ (St.rd 11 uE rfl) hb) ?_;rintro _ w88 ⟨A86,c87,rfl,T90⟩;refine ⟨_,rfl,?_⟩;have GJ:=uE.ext T90 rfl;refine vv (v:= .agg #[iV 14,iV 0,iV 0,iV 0]) gD ?_;refine sa 9 GJ kQ ?_;intro w91 zR;refine sa 8 zR kQ ?_;intro w93 FY;refine zN 6 ?_;refine dS (rs:=[.cell 4 57,.cell 5 67,.tmp 6,.tmp 7]) (vs:=[.agg #[iV ro,iV ep,iV fr,iV tg,iV rd,.slice A86 l.length c87],.agg #[iV 14,iV 0,iV 0,iV 0],.bool false,iV 0]) rfl ⟨⟨_,rfl,eT 9 FY rfl Tryz.underlying57 rfl kQ⟩,⟨_,rfl,eT 8 FY rfl Tryz.underlying67 rfl kQ⟩,rfl,rfl,trivial⟩ ?_;have Lu:=FY.aP [12,11,10,9,8,7,6,5,4,3,2,1];have hcp:=(dY (Lu.own 0 rfl)).1;have D5:=Lu.bD 0 rfl;rw [Kr (b:=⟨ro,ep,fr,tg,rd,l⟩) (e:=x) h16 h20 hk4 hsv,hR];rw [if_neg (by rw [hch];simp),if_pos atO];exact ⟨A86,c87,lZ,rfl,D5⟩
    refine zN 7 ?_;have Au:=uE.drew;refine aN 9 Au [8,7] ?_;refine aL 3 ?_;refine aU 2 ?_;refine GD 2 rfl Au ?_;intro an8 aib qd;refine cO ?_;refine aU 3 ?_;refine jI 3 rfl eQ (rE ro ep fr tg rd A c l (aD an8 0) 1 [x] _ (St.rd 12 qd rfl) (St.lD (xs:=bg [x]) 0 qd rfl rfl rfl) (by simp only [List.length_cons,List.length_nil];unfold reachBytes;omega)) ?_;rintro _ abG ⟨abH,c105,rfl,aAB⟩;refine ⟨_,rfl,?_⟩;have zn:=qd.ext aAB rfl;refine cO ?_;refine aU 5 ?_;refine sn 5 rfl 10 zn kQ ?_;intro WH qb;refine cO ?_;refine aU 6 ?_;refine sn 6 rfl 9 qb kQ ?_;intro abI wR;refine aL 4 ?_;refine zN 2 ?_;refine dS (rs:=[.cell 4 57,.cell 5 67,.tmp 6,.tmp 7]) (vs:=[.agg #[iV ro,iV ep,iV fr,iV tg,iV rd,.slice abH ((l++[x]).length) c105],.agg #[iV R.2.1.code,iV R.2.1.eF,iV R.2.1.hno,iV R.2.1.body],.bool true,iV 0]) rfl ⟨⟨_,rfl,eT 10 wR rfl Tryz.underlying57 rfl kQ⟩,⟨_,rfl,eT 9 wR rfl Tryz.underlying67 rfl kQ⟩,rfl,rfl,trivial⟩ ?_;have qc:=wR.aP [13,12,11,10,9,8,7,6,5,4,3,2,1];have hcp:=(dY (qc.own 0 rfl)).1;have uH:=qc.bD 0 rfl;rw [Kr (b:=⟨ro,ep,fr,tg,rd,l⟩) (e:=x) h16 h20 hk4 hsv,hR];rw [if_neg (by rw [hch];simp),if_neg atO];exact ⟨abH,c105,lZ,rfl,uH⟩
   rw [decide_eq_false hsv] at HC;refine dF eQ (HC _ (St.rd 4 jc rfl)) ?_;rintro _ abJ ⟨rfl,amQ⟩;refine ⟨_,rfl,?_⟩;have wP:=jc.on amQ;clear amQ jc;refine zN 8 ?_;refine dF eQ (jk ro ep fr tg rd A c l _ (St.rd 4 wP rfl) hb) ?_;rintro _ anZ ⟨aic,aie,rfl,aAC⟩;refine ⟨_,rfl,?_⟩;have AO:=wP.ext aAC rfl;refine vv (v:= .agg #[iV 7,iV 0,iV 0,iV 0]) gD ?_;refine sa 2 AO kQ ?_;intro an9 yh;refine sa 1 yh kQ ?_;intro aa1 ze;refine zN 7 ?_;refine dS (rs:=[.cell 4 57,.cell 5 67,.tmp 6,.tmp 7]) (vs:=[.agg #[iV ro,iV ep,iV fr,iV tg,iV rd,.slice aic l.length aie],.agg #[iV 7,iV 0,iV 0,iV 0],.bool false,iV 0]) rfl ⟨⟨_,rfl,eT 2 ze rfl Tryz.underlying57 rfl kQ⟩,⟨_,rfl,eT 1 ze rfl Tryz.underlying67 rfl kQ⟩,rfl,rfl,trivial⟩ ?_;have AU:=ze.aP [5,4,3,2,1];have hcp:=(dY (AU.own 0 rfl)).1;have abK:=AU.bD 0 rfl;rw [show gP ⟨ro,ep,fr,tg,rd,l⟩ x=(⟨ro,ep,fr,tg,rd,l⟩,⟨7,0,0,0⟩,false,0) from by unfold gP;(try dsimp only);exact kL];exact ⟨aic,aie,lZ,rfl,abK⟩
  refine zN 6 ?_;refine vv jl ?_;refine zN 2 ?_;refine sa 1 jc kQ ?_;intro ahZ zf;refine sa 0 zf kQ ?_;intro WJ yj;refine zN 6 ?_;refine dS (rs:=[.cell 4 57,.cell 5 67,.tmp 6,.tmp 7]) (vs:=[.agg zB,.agg #[iV 0,iV 0,iV 0,iV 0],.bool false,iV (aX x)]) rfl ⟨⟨_,rfl,eT 1 yj rfl Tryz.underlying57 rfl kQ⟩,⟨_,rfl,eT 0 yj rfl Tryz.underlying67 rfl kQ⟩,rfl,rfl,trivial⟩ ?_;have GR:=yj.aP [4,3,2,1,0];rw [show gP ⟨ro,ep,fr,tg,rd,l⟩ x=(⟨0,0,0,0,0,[]⟩,⟨0,0,0,0⟩,false,aX x) from by unfold gP;(try dsimp only);exact kL];exact ⟨none,0,lZ,rfl,aB GR⟩
 refine zN 6 ?_;refine vv jl ?_;refine zN 2 ?_;refine sa 1 kD kQ ?_;intro abo E9;refine sa 0 E9 kQ ?_;intro atQ Du;refine zN 6 ?_;refine dS (rs:=[.cell 4 57,.cell 5 67,.tmp 6,.tmp 7]) (vs:=[.agg zB,.agg #[iV 0,iV 0,iV 0,iV 0],.bool false,iV (au ⟨ro,ep,fr,tg,rd,l⟩)]) rfl ⟨⟨_,rfl,eT 1 Du rfl Tryz.underlying57 rfl kQ⟩,⟨_,rfl,eT 0 Du rfl Tryz.underlying67 rfl kQ⟩,rfl,rfl,trivial⟩ ?_;have Dr:=Du.aP [4,3,2,1,0];rw [show gP ⟨ro,ep,fr,tg,rd,l⟩ x=(⟨0,0,0,0,0,[]⟩,⟨0,0,0,0⟩,false,au ⟨ro,ep,fr,tg,rd,l⟩) from by unfold gP;(try dsimp only);exact kL];exact ⟨none,0,lZ,rfl,aB Dr⟩
theorem Yk (ro ep fr tg rd:Int) (A:Option Addr) (c:Nat) (l:List Ev) (hv:Int) (hlc:l.length<=c) (w:World) (h:Rd w w.heap.size 6 A l.length (bg l)) (hb:l.length*48<=reachBytes):
    Calls tP 145 #[.agg #[iV ro,iV ep,iV fr,iV tg,iV rd,.slice A l.length c],iV hv] w (Tc w (iK ⟨ro,ep,fr,tg,rd,l⟩ hv)):=by
 have S:=(St.start w).bL h;have hb2:=hb;unfold reachBytes at hb2;refine gu 53 Tryz.func145 ?_;refine cw [0,1] ?_;refine zN 2 ?_;refine iH S ?_;intro b1 w2 S3;refine zN 9 ?_;refine cab eQ S3 (dZ ro ep fr tg rd A c l _ (St.rd 1 S3 rfl) oQ) ?_;intro w4 S5;refine zN 6 ?_;by_cases h7:au ⟨ro,ep,fr,tg,rd,l⟩=0
 ·have hsh:=(eO h7).1;unfold bq at hsh;have hln:=gJ (eO h7).2;dsimp only at hsh hln;refine zN 11 ?_;by_cases h8:ro=2
  ·refine zN 15 ?_;by_cases h9:hv<0
   ·refine zN 21 ?_;have qx:=S5.aP [1,0];rw [show iK ⟨ro,ep,fr,tg,rd,l⟩ hv=([],false,2) from by unfold iK;(try dsimp only);exact kL];exact ⟨none,0,Nat.zero_le _,rfl,aB qx⟩
   refine zN 6 ?_;by_cases h11:((l.length:Nat):Int)<hv
   ·refine zN 15 ?_;have l5:=S5.aP [1,0];rw [show iK ⟨ro,ep,fr,tg,rd,l⟩ hv=([],false,2) from by unfold iK;(try dsimp only);exact kL];exact ⟨none,0,Nat.zero_le _,rfl,aB l5⟩
   refine zN 8 ?_;obtain ⟨k,rfl⟩: ∃ k:Nat,hv=k:=⟨hv.toNat,by omega⟩;obtain ⟨m,hm⟩: ∃ m,min (k+3) l.length=k+m:=⟨min (k+3) l.length-k,by omega⟩;refine zN 2 ?_;refine vv (v:=iV ((k+3:Nat):Int)) fJ ?_;refine zN 3 ?_;refine vv (v:=iV ((k+m:Nat):Int)) (qR (vs:=[iV ((k+3:Nat):Int),iV ((l.length:Nat):Int)]) rfl xU λ_=>by rw [VI,hm]) ?_;refine zN 3 ?_;obtain ⟨A13,aoa,aAD,aJu⟩:=FV (P:=tP) (t:=55) (enc:=Ev.cells) (s:=6) (λ_=>rfl) (A:=A) (b:=l) (n:=l.length) (c:=c) (lo:=(some (iV ((k:Nat):Int)))) (hi:=(some (iV ((k+m:Nat):Int)))) (mx:=none) (l:=k) (k:=k+m) (q:=c) (m:=m) (c':=c-k) Tryz.underlying55 kQ (Wx k (k+m) rfl rfl oQ oQ) oQ oQ oQ oQ oQ;have kP:=S5.bL (aAD _ _ (S5.all 1 _ rfl));by_cases hr3:ro=3
   ·by_cases hend:((k+m:Nat):Int)=((l.length:Nat):Int)
    ·refine zQ ?_;have jc:=kP.drew;refine aN 19 jc [] ?_;refine aL 4 ?_;refine ak (v:= .slice A13 m (c-k)) 4 rfl jc (λ_ _=>(jR rfl rfl (jo rfl) (jo rfl) nO (aoa _))) ?_;refine aL 3 ?_;refine aU 5 ?_;refine jI 5 rfl eQ (lW A13 m (c-k) _ _ (St.rd 0 jc rfl) (fE _) hQ) ?_;rintro _ ZI ⟨A27,c28,rfl,ah9,aAE⟩;refine ⟨_,rfl,?_⟩;have pU:=jc.uo ah9 aAE;refine aL 12 ?_;refine zN 3 ?_;have tT:=pU.aP [3,2,1];have hcp:=(dY (tT.own 0 rfl)).1;have Dc:=tT.bD 0 rfl;have hlm:((l.drop k).take m).length=m:=by rw [List.length_take,List.length_drop];omega
     rw [BK (b:=⟨ro,ep,fr,tg,rd,l⟩) h7 uQ uQ hm];dsimp only;rw [decide_eq_true ⟨hr3,by omega⟩];refine ⟨A27,c28,?_,?_,?_⟩
     · dsimp only;rw [hlm];exact hcp
     · dsimp only;rw [hlm];rfl
     · dsimp only;rw [hlm];exact Dc
    refine zQ ?_;have nX:=kP.drew;refine aN 19 nX [] ?_;refine aL 4 ?_;refine ak (v:= .slice A13 m (c-k)) 4 rfl nX (λ_ _=>(jR rfl rfl (jo rfl) (jo rfl) nO (aoa _))) ?_;refine aL 3 ?_;refine aU 5 ?_;refine jI 5 rfl eQ (lW A13 m (c-k) _ _ (St.rd 0 nX rfl) (fE _) hQ) ?_;rintro _ w58 ⟨A54,c55,rfl,aAF,aAG⟩;refine ⟨_,rfl,?_⟩;have Ar:=nX.uo aAF aAG;refine aL 12 ?_;refine zN 3 ?_;have uh:=Ar.aP [3,2,1];have hcp:=(dY (uh.own 0 rfl)).1;have lu:=uh.bD 0 rfl;have hlm:((l.drop k).take m).length=m:=by rw [List.length_take,List.length_drop];omega
    rw [BK (b:=⟨ro,ep,fr,tg,rd,l⟩) h7 uQ uQ hm];dsimp only;rw [decide_eq_false (λh=>hend oQ)];refine ⟨A54,c55,?_,?_,?_⟩
    · dsimp only;rw [hlm];exact hcp
    · dsimp only;rw [hlm];rfl
    · dsimp only;rw [hlm];exact lu
   refine zQ ?_;have Bb:=kP.drew;refine aN 19 Bb [] ?_;refine aL 4 ?_;refine ak (v:= .slice A13 m (c-k)) 4 rfl Bb (λ_ _=>(jR rfl rfl (jo rfl) (jo rfl) nO (aoa _))) ?_;refine aL 3 ?_;refine aU 5 ?_;refine jI 5 rfl eQ (lW A13 m (c-k) _ _ (St.rd 0 Bb rfl) (fE _) hQ) ?_;rintro _ w85 ⟨A81,c82,rfl,aAH,aAI⟩;refine ⟨_,rfl,?_⟩;have Cn:=Bb.uo aAH aAI;refine aL 12 ?_;refine zN 3 ?_;have zR:=Cn.aP [3,2,1];have hcp:=(dY (zR.own 0 rfl)).1;have DZ:=zR.bD 0 rfl;have hlm:((l.drop k).take m).length=m:=by rw [List.length_take,List.length_drop];omega
   rw [BK (b:=⟨ro,ep,fr,tg,rd,l⟩) h7 uQ uQ hm];dsimp only;rw [decide_eq_false (λh=>hr3 h.1)];refine ⟨A81,c82,?_,?_,?_⟩
   · dsimp only;rw [hlm];exact hcp
   · dsimp only;rw [hlm];rfl
   · dsimp only;rw [hlm];exact DZ
  refine zN 4 ?_;by_cases h94:ro=3
  ·refine zN 11 ?_;by_cases h95:hv<0
   ·refine zN 21 ?_;have D5:=S5.aP [1,0];rw [show iK ⟨ro,ep,fr,tg,rd,l⟩ hv=([],false,2) from by unfold iK;(try dsimp only);exact kL];exact ⟨none,0,Nat.zero_le _,rfl,aB D5⟩
   refine zN 6 ?_;by_cases h97:((l.length:Nat):Int)<hv
   ·refine zN 15 ?_;have D8:=S5.aP [1,0];rw [show iK ⟨ro,ep,fr,tg,rd,l⟩ hv=([],false,2) from by unfold iK;(try dsimp only);exact kL];exact ⟨none,0,Nat.zero_le _,rfl,aB D8⟩
   refine zN 8 ?_;obtain ⟨k,rfl⟩: ∃ k:Nat,hv=k:=⟨hv.toNat,by omega⟩;obtain ⟨m,hm⟩: ∃ m,min (k+3) l.length=k+m:=⟨min (k+3) l.length-k,by omega⟩;refine zN 2 ?_;refine vv (v:=iV ((k+3:Nat):Int)) fJ ?_;refine zN 3 ?_;refine vv (v:=iV ((k+m:Nat):Int)) (qR (vs:=[iV ((k+3:Nat):Int),iV ((l.length:Nat):Int)]) rfl xU λ_=>by rw [VI,hm]) ?_;refine zN 3 ?_;obtain ⟨A99,adY,awq,aGi⟩:=FV (P:=tP) (t:=55) (enc:=Ev.cells) (s:=6) (λ_=>rfl) (A:=A) (b:=l) (n:=l.length) (c:=c) (lo:=(some (iV ((k:Nat):Int)))) (hi:=(some (iV ((k+m:Nat):Int)))) (mx:=none) (l:=k) (k:=k+m) (q:=c) (m:=m) (c':=c-k) Tryz.underlying55 kQ (Wx k (k+m) rfl rfl oQ oQ) oQ oQ oQ oQ oQ;have qd:=S5.bL (awq _ _ (S5.all 1 _ rfl));by_cases hr3:ro=3
   ·by_cases hend:((k+m:Nat):Int)=((l.length:Nat):Int)
    ·refine zQ ?_;have wS:=qd.drew;refine aN 19 wS [] ?_;refine aL 4 ?_;refine ak (v:= .slice A99 m (c-k)) 4 rfl wS (λ_ _=>(jR rfl rfl (jo rfl) (jo rfl) nO (adY _))) ?_;refine aL 3 ?_;refine aU 5 ?_;refine jI 5 rfl eQ (lW A99 m (c-k) _ _ (St.rd 0 wS rfl) (fE _) hQ) ?_;rintro _ abJ ⟨aAJ,aAK,rfl,awr,awt⟩;refine ⟨_,rfl,?_⟩;have wP:=wS.uo awr awt;refine aL 12 ?_;refine zN 3 ?_;have AU:=wP.aP [3,2,1];have hcp:=(dY (AU.own 0 rfl)).1;have abK:=AU.bD 0 rfl;have hlm:((l.drop k).take m).length=m:=by rw [List.length_take,List.length_drop];omega
     rw [BK (b:=⟨ro,ep,fr,tg,rd,l⟩) h7 uQ uQ hm];dsimp only;rw [decide_eq_true ⟨hr3,by omega⟩];refine ⟨aAJ,aAK,?_,?_,?_⟩
     · dsimp only;rw [hlm];exact hcp
     · dsimp only;rw [hlm];rfl
     · dsimp only;rw [hlm];exact abK
    refine zQ ?_;have zo:=qd.drew;refine aN 19 zo [] ?_;refine aL 4 ?_;refine ak (v:= .slice A99 m (c-k)) 4 rfl zo (λ_ _=>(jR rfl rfl (jo rfl) (jo rfl) nO (adY _))) ?_;refine aL 3 ?_;refine aU 5 ?_;refine jI 5 rfl eQ (lW A99 m (c-k) _ _ (St.rd 0 zo rfl) (fE _) hQ) ?_;rintro _ ah0 ⟨aAL,c141,rfl,awu,awv⟩;refine ⟨_,rfl,?_⟩;have Mf:=zo.uo awu awv;refine aL 12 ?_;refine zN 3 ?_;have abL:=Mf.aP [3,2,1];have hcp:=(dY (abL.own 0 rfl)).1;have aob:=abL.bD 0 rfl;have hlm:((l.drop k).take m).length=m:=by rw [List.length_take,List.length_drop];omega
    rw [BK (b:=⟨ro,ep,fr,tg,rd,l⟩) h7 uQ uQ hm];dsimp only;rw [decide_eq_false (λh=>hend oQ)];refine ⟨aAL,c141,?_,?_,?_⟩
    · dsimp only;rw [hlm];exact hcp
    · dsimp only;rw [hlm];rfl
    · dsimp only;rw [hlm];exact aob
   refine zQ ?_;have Fg:=qd.drew;refine IQ (C:=λw'=>St w.heap.size w w' [.rd 6 A99 m (((l.drop k).take m).flatMap Ev.cells),.blk b1 #[iV ro,iV ep,iV fr,iV tg,iV rd,.slice A l.length c] 57,.rd 6 A l.length ((l).flatMap Ev.cells)]) (n:=19) (listed:= #[false,false,false,false,false,false,false,false,false,false,false,false,false,false,false,false,false,false,false]) mixed rfl rfl ?_;refine ak (v:=pV b1 5) 0 rfl Fg (λ_ _=>oG _ aen) ?_;refine ak (v:= .slice A l.length c) 1 rfl Fg (λ_ adZ=>(aj rfl rfl (aC (St.cl 1 adZ rfl rfl)))) ?_;refine ak (v:=iV ((k:Nat):Int)) 2 rfl Fg (λ_ _=>ym) ?_;refine ak (v:=iV ((k+m:Nat):Int)) 3 rfl Fg (λ_ _=>ym) ?_;refine ak (v:= .slice A99 m (c-k)) 4 rfl Fg (λ_ _=>(jR rfl rfl (jo rfl) (jo rfl) nO (adY _))) ?_;refine ak (v:=pV b1 0) 6 rfl Fg (λ_ _=>oG _ NW) ?_;refine ak (v:=iV ro) 7 rfl Fg (λ_ aww=>(aj rfl rfl (aC (St.cl 1 aww rfl rfl)))) ?_;refine ak (v:= .bool false) 8 rfl Fg (λ_ _=>adV hr3) ?_;refine aU 5 ?_;refine jI 5 rfl eQ (lW A99 m (c-k) _ _ (St.rd 0 Fg rfl) (fE _) hQ) ?_;rintro _ aAr ⟨atS,c168,rfl,awx,awy⟩;refine ⟨_,rfl,?_⟩;have zm:=Fg.uo awx awy;refine ⟨(St.del 0 zm),?_⟩;refine ak (v:= .bool false) 9 rfl (St.del 0 zm) (λ_ _=>ym) ?_;refine BD (i:=10) (n:=8) rfl kQ kQ kQ (St.del 0 zm) rfl (wg rfl rfl rfl rfl) rfl rfl ?_;refine BD (i:=11) (n:=7) rfl kQ kQ kQ (St.del 0 zm) rfl (wg rfl rfl rfl rfl) rfl rfl ?_;refine BD (i:=12) (n:=6) rfl kQ kQ kQ (St.del 0 zm) rfl (wg rfl rfl rfl rfl) rfl rfl ?_;refine BD (i:=13) (n:=5) rfl kQ kQ kQ (St.del 0 zm) rfl (wg rfl rfl rfl rfl) rfl rfl ?_;refine BD (i:=14) (n:=4) rfl kQ kQ kQ (St.del 0 zm) rfl (wg rfl rfl rfl rfl) rfl rfl ?_;refine ak (v:= .bool false) 15 rfl (St.del 0 zm) (λ_ _=>ypF) ?_;refine ak (v:= .slice atS m c168) 16 rfl (St.del 0 zm) (λ_ _=>ya) ?_;refine ak (v:= .bool false) 17 rfl (St.del 0 zm) (λ_ _=>ya) ?_;refine ak (v:=iV 0) 18 rfl (St.del 0 zm) (λ_ _=>ya) ?_;refine cO ?_;refine zN 3 ?_;have WQ:=zm.aP [3,2,1];have hcp:=(dY (WQ.own 0 rfl)).1;have aAM:=WQ.bD 0 rfl;have hlm:((l.drop k).take m).length=m:=by rw [List.length_take,List.length_drop];omega
   rw [BK (b:=⟨ro,ep,fr,tg,rd,l⟩) h7 uQ uQ hm];dsimp only;rw [decide_eq_false (λh=>hr3 h.1)];refine ⟨atS,c168,?_,?_,?_⟩
   · dsimp only;rw [hlm];exact hcp
   · dsimp only;rw [hlm];rfl
   · dsimp only;rw [hlm];exact aAM
  refine zN 15 ?_;have abM:=S5.aP [1,0];rw [show iK ⟨ro,ep,fr,tg,rd,l⟩ hv=([],false,7) from by unfold iK;(try dsimp only);exact kL];exact ⟨none,0,Nat.zero_le _,rfl,aB abM⟩
 refine zN 15 ?_;have abN:=S5.aP [1,0];rw [show iK ⟨ro,ep,fr,tg,rd,l⟩ hv=([],false,au ⟨ro,ep,fr,tg,rd,l⟩) from by unfold iK;(try dsimp only);exact kL];exact ⟨none,0,Nat.zero_le _,rfl,aB abN⟩
def JX (b:bn) (ep:Int) (d:Nat) (l:List Ev) (last:Bool):bn:=if last=true then ⟨1,ep,0,0,0,b.evs++l.drop d++[aI]⟩ else { b with evs:=b.evs++l.drop d }
theorem Tf {b:bn} {ep:Int} {d:Nat} {l:List Ev}:JX b ep d l true=⟨1,ep,0,0,0,b.evs++l.drop d++[aI]⟩:=rfl
theorem Tg {b:bn} {ep:Int} {d:Nat} {l:List Ev}:JX b ep d l false={ b with evs:=b.evs++l.drop d }:=rfl
theorem F6 {b:bn} {ep:Int} {k:Nat} {K:List Ev} {last:Bool} (h:au b=0) (hr:b.role=4) (he:b.ep=ep) (hk:k<=b.evs.length):dn b ep k K last=
  if ¬ (b.evs.drop k).take K.length=K.take (b.evs.length-k) then (bF,3) else if last=true/\k+K.length<b.evs.length then (bF,3)
  else if au (JX b ep (b.evs.length-k) K last)≠0 then (bF,3) else (JX b ep (b.evs.length-k) K last,0):=by
 unfold dn JX;rw [if_neg (λh1=>h1 h),if_neg (λh1=>h1 hr),if_neg (λh1=>h1 he),if_neg oQ,Int.toNat_natCast]
section
variable {l K:List Ev} {k d p i:Nat}
theorem akZ (hd:l.length=k+d) (hp:min d K.length=p):((l.drop k).take K.length=K.take d)↔((l.drop k).take p=K.take p):=by
 have e1:(l.drop k).take K.length=(l.drop k).take p:=by rw [List.take_eq_take_iff,List.length_drop];omega
 have e2:K.take d=K.take p:=by rw [List.take_eq_take_iff];omega
 rw [e1,e2]
theorem agz (hp:min d K.length=p):K.drop p=K.drop d:=by
 rcases Nat.le_total d K.length with h | h
 ·rw [show p=d by omega]
 rw [List.drop_eq_nil_of_le h,List.drop_eq_nil_of_le oQ]
end
theorem ak0 {a b:Ev} (h:a=b) (w:World):(binOp .neq 65 (.agg #[iV a.kind,iV a.producer,iV a.id,iV a.body,iV a.aG,iV a.hno])
  (.agg #[iV b.kind,iV b.producer,iV b.id,iV b.body,iV b.aG,iV b.hno])).run tP w= .ok (.bool false) w:=by
 rw [ru,decide_eq_true h];rfl
theorem ak1 {a b:Ev} (h: ¬ a=b) (w:World):(binOp .neq 65 (.agg #[iV a.kind,iV a.producer,iV a.id,iV a.body,iV a.aG,iV a.hno])
  (.agg #[iV b.kind,iV b.producer,iV b.id,iV b.body,iV b.aG,iV b.hno])).run tP w= .ok (.bool true) w:=by
 rw [ru,decide_eq_false h];rfl
theorem arn {x y:List Ev} {k:Nat} {a b:Ev} (ha:x[k]? =some a) (hb:y[k]? =some b) (h: ¬ a=b): ¬ x=y:=λe=>by
 rw [e,hb] at ha
 injection ha with h1
 exact h h1.symm
theorem Rf (A A':Option Addr) (c c' n:Nat) (xs ys:List Ev) (w:World) (h:Rd w w.heap.size 6 A n (bg xs)) (h':Rd w w.heap.size 6 A' n (bg ys)) (hx:xs.length=n) (hy:ys.length=n) (hn:n<=1152921504606846976):
    Calls tP 146 #[.slice A n c,.slice A' n c'] w (FW w (decide (xs=ys))):=by
 have S:=((St.start w).bL h').bL h;clear h h';refine gu 26 Tryz.func146 ?_;refine cw [0,1] ?_;refine zN 27 ?_;refine dN (X:=Nat) (λxv=>[(0,.slice A n c),(1,.slice A' n c'),(4,.bool false),(12,iV ((n:Nat):Int)),(13,iV ((xv:Nat):Int))]) (λxv wr=>(xv<=n)/\(xs.take xv=ys.take xv)/\St w.heap.size w wr [.rd 6 A n ((xs).flatMap Ev.cells),.rd 6 A' n ((ys).flatMap Ev.cells)]) (λxv=>n-xv) (0) ?_ ?_ ?_
 ·exact ⟨Nat.zero_le _,rfl,S⟩
 ·exact vJ
 rintro k w1 ⟨hi3,hi4,S2⟩
 try dsimp only at hi3 hi4 S2
 refine aZ (l':=[(0,.slice A n c),(1,.slice A' n c'),(4,.bool false),(12,iV ((n:Nat):Int)),(13,iV ((k:Nat):Int))]) vJ (aH (ay ?_));by_cases h5:((k:Nat):Int)< ((n:Nat):Int)
 ·refine zN 16 ?_;refine bV S2 mixed kQ ?_;refine zN 2 ?_;obtain ⟨b8,o9,rfl⟩:=Rd.addr (St.rd 0 S2 rfl) oQ;obtain ⟨x10,WR⟩:=DT k (St.rd 0 S2 rfl) oQ;refine uv (λ_ _=>jf k) ?_;refine uv (v:= .agg #[iV x10.kind,iV x10.producer,iV x10.id,iV x10.body,iV x10.aG,iV x10.hno]) (λ_ Sb=>(aj rfl rfl (cZ (cs:=Ev.cells x10) (Rd.uq (St.rd 0 Sb rfl) (λ_ _ h=>aW (enc:=Ev.cells) (sz:=6) (λ_=>rfl) WR h))))) ?_;refine zN 2 ?_;obtain ⟨b16,o17,rfl⟩:=Rd.addr (St.rd 1 S2 rfl) oQ;obtain ⟨x18,E5⟩:=DT k (St.rd 1 S2 rfl) oQ;refine uv (λ_ _=>jf k) ?_;refine uv (v:= .agg #[iV x18.kind,iV x18.producer,iV x18.id,iV x18.body,iV x18.aG,iV x18.hno]) (λ_ aoc=>(aj rfl rfl (cZ (cs:=Ev.cells x18) (Rd.uq (St.rd 1 aoc rfl) (λ_ _ h=>aW (enc:=Ev.cells) (sz:=6) (λ_=>rfl) E5 h))))) ?_;by_cases hev:x10=x18
  ·refine uv (v:= .bool false) (λ_ _=>(bE rfl rfl rfl (zJ kQ (ak0 hev _)))) ?_;refine dh λH9 iP=>?_;refine zN 6 ?_;refine vv (v:=iV ((k+1:Nat):Int)) fJ ?_;refine zN 2 ?_;refine aM (k+1) ?_ vJ (by first | omega | (dsimp only;omega));exact ⟨oQ,(by rw [List.take_add_one,List.take_add_one,hi4,WR,E5,hev]),iP⟩
  refine uv (v:= .bool true) (λ_ _=>(bE rfl rfl rfl (zJ kQ (ak1 hev _)))) ?_;refine dh λOm tX=>?_;refine zN 14 ?_;exact ⟨congrArg (λb=>Ending.returned (.bool b)) (decide_eq_false (arn WR E5 hev)).symm,tX.low⟩
 refine zN 17 ?_;obtain rfl:n=k:=oQ;have he:xs=ys:=by rw [<-List.take_of_length_le (Nat.le_of_eq hx),<-List.take_of_length_le (l:=ys) (Nat.le_of_eq hy)];exact hi4
 exact ⟨congrArg (λb=>Ending.returned (.bool b)) (decide_eq_true he).symm,S2.low⟩
theorem F7 (ro ep fr tg rd:Int) (A:Option Addr) (c:Nat) (l:List Ev) (e at_:Int) (A2:Option Addr) (c2:Nat) (K:List Ev) (last:Bool) (hlc:l.length<=c) (hkc:K.length<=c2) (w:World) (hK:Rd w w.heap.size 6 A2 K.length (bg K)) (h:Rd w w.heap.size 6 A l.length (bg l)) (hb:l.length*48<=reachBytes) (hbK:(K.length+2001)*48<=reachBytes):
    Calls tP 125 #[.agg #[iV ro,iV ep,iV fr,iV tg,iV rd,.slice A l.length c],iV e,iV at_,.slice A2 K.length c2,.bool last] w (kI w (dn ⟨ro,ep,fr,tg,rd,l⟩ e at_ K last)):=by
 have S:=((St.start w).bL hK).bL h;have hb2:=hb;unfold reachBytes at hb2;refine gu 101 Tryz.func125 ?_;refine cw [0,1,2,3,4] ?_;refine zN 2 ?_;refine iH S ?_;intro b1 w2 S3;refine gq S3 fP ?_;intro b4 w5 S6;refine zN 7 ?_;refine cab eQ S6 (dZ ro ep fr tg rd A c l _ (St.rd 2 S6 rfl) oQ) ?_;intro w7 S8;refine zN 7 ?_;by_cases h10:au ⟨ro,ep,fr,tg,rd,l⟩=0
 ·have hsh:=(eO h10).1;unfold bq at hsh;have hln:=gJ (eO h10).2;dsimp only at hsh hln;refine zN 9 ?_;by_cases h11:ro=4
  ·refine zN 10 ?_;by_cases h12:ep=e
   ·refine zN 8 ?_;by_cases pR:at_<0
    ·refine zN 14 ?_;refine vv jl ?_;refine sa 0 S8 kQ ?_;intro JO iG;refine zN 7 ?_;have lV:=iG.aP [3,2,1,0];rw [show dn ⟨ro,ep,fr,tg,rd,l⟩ e at_ K last=(bF,2) from by unfold dn;(try dsimp only);exact kL];exact ⟨none,0,Nat.zero_le _,rfl,aB lV⟩
    refine zN 6 ?_;by_cases u7:((l.length:Nat):Int)<at_
    ·refine zN 8 ?_;refine vv jl ?_;refine sa 0 S8 kQ ?_;intro MX mq;refine zN 7 ?_;have mM:=mq.aP [3,2,1,0];rw [show dn ⟨ro,ep,fr,tg,rd,l⟩ e at_ K last=(bF,2) from by unfold dn;(try dsimp only);exact kL];exact ⟨none,0,Nat.zero_le _,rfl,aB mM⟩
    refine zN 10 ?_;obtain rfl:ro=4:=oQ;obtain rfl:tg=0:=oQ;obtain rfl:rd=0:=oQ;obtain rfl:e=ep:=oQ;clear hsh;have hbL:(l.length+K.length+1)*48<=reachBytes:=Nat.le_trans (Nat.mul_le_mul_right 48 oQ) hbK;have hb3:=hbL;unfold reachBytes at hb3;obtain ⟨k,rfl⟩: ∃ k:Nat,at_=k:=⟨at_.toNat,by omega⟩;obtain ⟨d,hd⟩: ∃ d,l.length=k+d:=⟨l.length-k,by omega⟩;obtain ⟨p,hp⟩: ∃ p,min d K.length=p:=⟨_,rfl⟩;have hqm:=Lib.hid (akZ (l:=l) (K:=K) hd hp);refine zN 5 ?_;refine vv (v:=iV ((d:Nat):Int)) ysu ?_;refine zN 2 ?_;refine vv (v:=iV ((p:Nat):Int)) (qR (vs:=[iV ((d:Nat):Int),iV ((K.length:Nat):Int)]) rfl xU λ_=>by rw [VI,hp]) ?_;refine zN 4 ?_;obtain ⟨A21,aAN,aAO,aJv⟩:=FV (P:=tP) (t:=55) (enc:=Ev.cells) (s:=6) (λ_=>rfl) (A:=A) (b:=l) (n:=l.length) (c:=c) (lo:=(some (iV ((k:Nat):Int)))) (hi:=(some (iV ((k+p:Nat):Int)))) (mx:=(some (iV ((k+p:Nat):Int)))) (l:=k) (k:=k+p) (q:=k+p) (m:=p) (c':=p) Tryz.underlying55 kQ (aex k (k+p) (k+p) rfl rfl rfl oQ oQ oQ) oQ oQ oQ oQ oQ;have jE:=S8.bL (aAO _ _ (S8.all 2 _ rfl));obtain ⟨A26,aAP,aAQ,aJw⟩:=FV (P:=tP) (t:=55) (enc:=Ev.cells) (s:=6) (λ_=>rfl) (A:=A2) (b:=K) (n:=K.length) (c:=c2) (lo:=none) (hi:=(some (iV ((p:Nat):Int)))) (mx:=(some (iV ((p:Nat):Int)))) (l:=0) (k:=p) (q:=p) (m:=p) (c':=p) Tryz.underlying55 kQ (amy p p rfl rfl oQ oQ) oQ oQ oQ oQ oQ;have Cj:=jE.bL (aAQ _ _ (jE.all 4 _ rfl));have kV:=Cj;rw [List.drop_zero] at kV;refine zQ ?_;refine bV kV mixed kQ ?_;refine zN 5 ?_;refine uv (v:=iV ((k+p:Nat):Int)) (λ_ _=>fJ) ?_;refine zN 2 ?_;refine uv (v:=iV ((k+p:Nat):Int)) (λ_ _=>fJ) ?_;refine uv (v:= .slice A21 p p) (λ_ _=>(jR rfl rfl (jo rfl) (jo rfl) (jo rfl) (aAN _))) ?_;refine zN 3 ?_;refine uv (v:= .slice A26 p p) (λ_ _=>(jR rfl rfl nO (jo rfl) (jo rfl) (aAP _))) ?_;have HE:=λ(w:World) h h1=>Rf A21 A26 p p p ((l.drop k).take p) (K.take p) w h h1 (by rw [List.length_take,List.length_drop];omega) (by rw [List.length_take];omega) oQ;by_cases hq:(l.drop k).take p=K.take p
    ·rw [decide_eq_true hq] at HE;refine Y6 (v:= .bool true) (wn rfl) rfl rfl (λ_=>(jd (vs:=[.slice A21 p p,.slice A26 p p]) rfl eQ xU)) (λ_ aod=>(HE _ (St.rd 1 aod rfl) (St.rd 0 aod rfl)).mono λ_ _ h=>⟨h.1,aod.on h.2⟩) ?_;clear HE;refine zQ ?_;refine dh λZG uF=>?_;refine zN 4 ?_;have hpd:=agz (K:=K) hp;obtain ⟨ZH,aAR,aAS,aJx⟩:=FV (P:=tP) (t:=55) (enc:=Ev.cells) (s:=6) (λ_=>rfl) (A:=A2) (b:=K) (n:=K.length) (c:=c2) (lo:=(some (iV ((p:Nat):Int)))) (hi:=none) (mx:=none) (l:=p) (k:=K.length) (q:=c2) (m:=(K.drop d).length) (c':=c2-p) Tryz.underlying55 kQ (ahX p rfl oQ) oQ oQ oQ (by rw [List.length_drop];omega) oQ;have l7:=uF.bL (aAS _ _ (uF.all 5 _ rfl));have uY:=l7;rw [hpd,List.take_length] at uY;have hlk:(l++(K.drop d)).length=l.length+(K.length-d):=by simp
     have hw2:((l++(K.drop d)).length+([aI]:List Ev).length)*48<=reachBytes:=by rw [hlk];exact Nat.le_trans (Nat.mul_le_mul_right 48 (by simp only [List.length_cons,List.length_nil];omega)) hbL
     refine mh (X:=Nat×(Option Addr)×Nat) (λxv=>[(1,iV e),(2,iV ((k:Nat):Int)),(3,.slice A2 K.length c2),(4,.bool last),(5,pV b1 0),(10,pV b4 0),(11,iV 0),(14,pV xv.1 0)]) (λxv wr=>St w.heap.size w wr [.blk xv.1 #[iV 4,iV e,iV fr,iV 0,iV 0,.slice xv.2.1 ((l++(K.drop d)).length) xv.2.2] 57,.own 65 6 (.slice xv.2.1 ((l++(K.drop d)).length) xv.2.2) ((l++(K.drop d)).length) ((l++(K.drop d)).flatMap Ev.cells),.rd 6 ZH ((K.drop d).length) ((K.drop d).flatMap Ev.cells),.rd 6 A26 p ((K.take p).flatMap Ev.cells),.rd 6 A21 p (((l.drop k).take p).flatMap Ev.cells),.blk b4 zB 57,.blk b1 #[iV 4,iV e,iV fr,iV 0,iV 0,.slice A l.length c] 57,.rd 6 A l.length ((l).flatMap Ev.cells),.rd 6 A2 K.length ((K).flatMap Ev.cells)]) ?_ ?_
     ·have F4:=uY.drew;refine fC 7 6 F4 [] ?_;iterate 3 refine gU ?_
      refine gk (v:= .slice ZH ((K.drop d).length) (c2-p)) 3 rfl F4 (λ_ _=>(jR rfl rfl (jo rfl) nO nO (aAR _))) ?_;refine aek (m:=2) (r:=4) (s:=5) kQ ?_ ?_
      ·refine kW (i:=4) rfl rfl (wn rfl) rfl rfl (jd (vs:=[.agg #[iV 4,iV e,iV fr,iV 0,iV 0,.slice A l.length c],.slice ZH ((K.drop d).length) (c2-p)]) rfl eQ xU) (rE 4 e fr 0 0 A c l ZH (c2-p) (K.drop d) _ (St.rd 5 F4 rfl) (St.rd 0 F4 rfl) (by rw [List.length_drop];unfold reachBytes;omega)) ?_;rintro _ w63 ⟨A61,c62,rfl,T65⟩;refine ⟨_,rfl,?_⟩;have S64:=F4.ext T65 rfl;refine gU ?_;refine fq (m:=1) (r:=5) kQ ?_;refine mo (i:=5) rfl rfl (V:=λb=>pV b 0) (row:=zB) (t:=57) S64 (wn rfl) rfl rfl (dO rfl (Tryz.zeroValue57 _) rfl) ?_;intro b66 w67 Bc;refine gU ?_;refine eU kQ rfl rfl rfl ?_;refine sa 0 Bc kQ ?_;intro w69 uh;refine zQ ?_;refine iY ?_;refine bX (b66,A61,c62) ?_ Ho;exact uh
      refine mo (i:=5) rfl rfl (V:=λb=>pV b 0) (row:=zB) (t:=57) F4 (wn rfl) rfl rfl (dO rfl (Tryz.zeroValue57 _) rfl) ?_;intro b71 w72 tY;refine gU ?_;refine fq (m:=1) (r:=4) kQ ?_;refine kW (i:=4) rfl rfl (wn rfl) rfl rfl (jd (vs:=[.agg #[iV 4,iV e,iV fr,iV 0,iV 0,.slice A l.length c],.slice ZH ((K.drop d).length) (c2-p)]) rfl eQ xU) (rE 4 e fr 0 0 A c l ZH (c2-p) (K.drop d) _ (St.rd 6 tY rfl) (St.rd 1 tY rfl) (by rw [List.length_drop];unfold reachBytes;omega)) ?_;rintro _ w76 ⟨A74,c75,rfl,T78⟩;refine ⟨_,rfl,?_⟩;have DY:=tY.ext T78 rfl;refine gU ?_;refine eU kQ rfl rfl rfl ?_;refine sa 1 DY kQ ?_;intro w79 Cm;refine zQ ?_;refine iY ?_;have tV:St w.heap.size w w79 [_,_,_,_,_,_,_,_,_]:=Cm.re [1,0,2,3,4,5,6,7,8] dQ;refine bX (b71,A74,c75) ?_ Ho;exact tV
     rintro ⟨b82,A83,c84⟩ w85 Cn
     try dsimp only at Cn
     refine aZ (l':=[(1,iV e),(2,iV ((k:Nat):Int)),(3,.slice A2 K.length c2),(4,.bool last),(5,pV b1 0),(10,pV b4 0),(11,iV 0),(14,pV b82 0)]) Ho (aH (EO (aH (ay (vm ?_)))));refine zQ ?_
     cases atX:(last)
     ·refine zN 27 ?_;refine cab eQ Cn (dZ 4 e fr 0 0 A83 c84 (l++(K.drop d)) _ (St.ord 1 Cn rfl) (by simp only [List.length_append,List.length_cons,List.length_nil,List.length_drop];omega)) ?_;intro w88 GJ;by_cases F8:au ⟨4,e,fr,0,0,l++(K.drop d)⟩=0
      ·refine zN 9 ?_;refine sa 5 GJ kQ ?_;intro w92 DZ;refine zN 5 ?_;rw [F6 (b:=⟨4,e,fr,0,0,l⟩) (k:=k) h10 rfl rfl uQ];dsimp only;rw [show l.length-k=d from by omega];rw [if_neg (λh=>h (hqm.out.2 hq))];rw [if_neg iQ];rw [Tg];dsimp only;rw [if_neg (λh=>h F8)];have FY:=DZ.aP [8,7,6,5,4,3,2,0];have hcp:=(dY (FY.own 0 rfl)).1;have Lu:=FY.bD 0 rfl;exact ⟨A83,c84,lZ,rfl,Lu⟩
      refine zN 6 ?_;refine vv jl ?_;refine sa 5 GJ kQ ?_;intro w96 Au;refine zN 6 ?_;rw [F6 (b:=⟨4,e,fr,0,0,l⟩) (k:=k) h10 rfl rfl uQ];dsimp only;rw [show l.length-k=d from by omega];rw [if_neg (λh=>h (hqm.out.2 hq))];rw [if_neg iQ];rw [Tg];dsimp only;rw [if_pos F8];have D8:=Au.aP [8,7,6,5,4,3,2,1,0];exact ⟨none,0,Nat.zero_le _,rfl,aB D8⟩
     refine zN 3 ?_;refine vg (v:=iV ((k+K.length:Nat):Int)) fJ ?_;refine zN 3 ?_;by_cases h99:((k+K.length:Nat):Int)< ((l.length:Nat):Int)
     ·refine zN 8 ?_;refine vv jl ?_;refine sa 5 Cn kQ ?_;intro aif wT;refine zN 7 ?_;rw [F6 (b:=⟨4,e,fr,0,0,l⟩) (k:=k) h10 rfl rfl uQ];dsimp only;rw [show l.length-k=d from by omega];rw [if_neg (λh=>h (hqm.out.2 hq))];rw [if_pos ⟨rfl,by omega⟩];have tu:=wT.aP [8,7,6,5,4,3,2,1,0];exact ⟨none,0,Nat.zero_le _,rfl,aB tu⟩
     refine zN 17 ?_;refine vv (v:= .agg #[iV 1,iV e,iV 0,iV 0,iV 0,.slice A83 ((l++(K.drop d)).length) c84]) gD ?_;refine vv (v:= .agg #[iV 4,iV 0,iV 0,iV 0,iV 0,iV 0]) gD ?_;refine NY Cn ?_;intro aAT atY sJ;refine dF eQ (rE 1 e 0 0 0 A83 c84 (l++(K.drop d)) (aD aAT 0) 1 [aI] _ (St.ord 2 sJ rfl) (St.lD (xs:=bg [aI]) 0 sJ rfl rfl rfl) hw2) ?_;rintro _ atZ ⟨Jg,c107,rfl,aAU⟩;refine ⟨_,rfl,?_⟩;have Jh:=sJ.ext aAU rfl;refine sa 2 Jh kQ ?_;intro abI wR;refine zN 7 ?_;refine cab eQ wR (dZ 1 e 0 0 0 Jg c107 (l++(K.drop d)++[aI]) _ (St.ord 0 wR rfl) (by simp only [List.length_append,List.length_cons,List.length_nil,List.length_drop];omega)) ?_;intro aoe E8;by_cases h116:au ⟨1,e,0,0,0,l++(K.drop d)++[aI]⟩=0
     ·refine zN 9 ?_;refine sa 7 E8 kQ ?_;intro abJ wP;refine zN 5 ?_;rw [F6 (b:=⟨4,e,fr,0,0,l⟩) (k:=k) h10 rfl rfl uQ];dsimp only;rw [show l.length-k=d from by omega];rw [if_neg (λh=>h (hqm.out.2 hq))];rw [if_neg jQ];rw [Tf];dsimp only;rw [if_neg (λh=>h h116)];have oZ:=wP.aP [10,9,8,7,6,5,4,3,2,1];have hcp:=(dY (oZ.own 0 rfl)).1;have oV:=oZ.bD 0 rfl;exact ⟨Jg,c107,lZ,rfl,oV⟩
     refine zN 6 ?_;refine vv jl ?_;refine sa 7 E8 kQ ?_;intro abO Dv;refine zN 6 ?_;rw [F6 (b:=⟨4,e,fr,0,0,l⟩) (k:=k) h10 rfl rfl uQ];dsimp only;rw [show l.length-k=d from by omega];rw [if_neg (λh=>h (hqm.out.2 hq))];rw [if_neg jQ];rw [Tf];dsimp only;rw [if_pos h116];have AO:=Dv.aP [10,9,8,7,6,5,4,3,2,1,0];exact ⟨none,0,Nat.zero_le _,rfl,aB AO⟩
    rw [decide_eq_false hq] at HE;refine Y6 (v:= .bool false) (wn rfl) rfl rfl (λ_=>(jd (vs:=[.slice A21 p p,.slice A26 p p]) rfl eQ xU)) (λ_ ad1=>(HE _ (St.rd 1 ad1 rfl) (St.rd 0 ad1 rfl)).mono λ_ _ h=>⟨h.1,ad1.on h.2⟩) ?_;clear HE;refine zQ ?_;refine dh λan1 R9=>?_;refine zN 4 ?_;refine vv jl ?_;refine sa 2 R9 kQ ?_;intro aAV AU;refine zN 6 ?_;rw [F6 (b:=⟨4,e,fr,0,0,l⟩) (k:=k) h10 rfl rfl uQ];dsimp only;rw [show l.length-k=d from by omega];rw [if_pos (λh=>hq (hqm.out.1 h))];have abK:=AU.aP [5,4,3,2,1,0];exact ⟨none,0,Nat.zero_le _,rfl,aB abK⟩
   refine zN 7 ?_;refine vv jl ?_;refine sa 0 S8 kQ ?_;intro ahZ zf;refine zN 7 ?_;have Sc:=zf.aP [3,2,1,0];rw [show dn ⟨ro,ep,fr,tg,rd,l⟩ e at_ K last=(bF,15) from by unfold dn;(try dsimp only);exact kL];exact ⟨none,0,Nat.zero_le _,rfl,aB Sc⟩
  refine zN 7 ?_;refine vv jl ?_;refine sa 0 S8 kQ ?_;intro an6 GR;refine zN 7 ?_;have zh:=GR.aP [3,2,1,0];rw [show dn ⟨ro,ep,fr,tg,rd,l⟩ e at_ K last=(bF,7) from by unfold dn;(try dsimp only);exact kL];exact ⟨none,0,Nat.zero_le _,rfl,aB zh⟩
 refine zN 7 ?_;refine vv jl ?_;refine zQ ?_;refine sa 0 S8 kQ ?_;intro aa2 zi;refine zN 7 ?_;have Du:=zi.aP [3,2,1,0];rw [show dn ⟨ro,ep,fr,tg,rd,l⟩ e at_ K last=(bF,au ⟨ro,ep,fr,tg,rd,l⟩) from by unfold dn;(try dsimp only);exact kL];exact ⟨none,0,Nat.zero_le _,rfl,aB Du⟩
noncomputable def Dw (b:bn) (e:Ev):bn×Int:=if au ⟨b.role,b.ep,b.fr,b.tg,b.rd,b.evs++[e]⟩≠0 then (bF,3) else (⟨b.role,b.ep,b.fr,b.tg,b.rd,b.evs++[e]⟩,0)
def WS (b:bn) (pe:Int):bn×Int:=(⟨3,b.ep,b.fr,pe,b.rd,b.evs⟩,0)
noncomputable def ku (b:bn) (r:dD):bn×Int:=
 if r.kind=1 then iR b r.epoch else if r.kind=4 then dG b r.epoch r.peer
 else if ¬ (b.role=(if r.kind=2\/r.kind=3 then 1 else if r.kind=7 then 3 else 4)/\b.ep=r.epoch) then (bF,3)
 else if r.kind=3 then WS b r.peer else if r.kind=6 then dn b r.epoch b.evs.length [] true else if r.kind=7 then fZ b (r.epoch+1) else Dw b r.ev
noncomputable def eu (b:bn) (r:dD):bn×Int:=
 if au b≠0 then (bF,au b) else if aJ r≠0 then (bF,aJ r)
 else if b.role=2\/(r.kind≠3/\r.kind≠4/\r.peer≠0) then (bF,3) else if (ku b r).2≠0 then (bF,3) else ((ku b r).1,0)
theorem wV (ro ep fr tg rd:Int) (A:Option Addr) (c:Nat) (l:List Ev) (kd qu e pe:Int) (x:Ev) (w:World) (h:Rd w w.heap.size 6 A l.length (bg l)) (hb:l.length*48<=reachBytes):
    Calls tP 132 #[.agg #[iV ro,iV ep,iV fr,iV tg,iV rd,.slice A l.length c],.agg (rR kd qu e pe x)] w (kI w (iR ⟨ro,ep,fr,tg,rd,l⟩ e)):=by
 have S:=(St.start w).bL h;have hb2:=hb;unfold reachBytes at hb2;obtain ⟨R,hR⟩: ∃ R,iR ⟨ro,ep,fr,tg,rd,l⟩ e=R:=⟨_,rfl⟩;rw [hR];refine gu 12 Tryz.func132 ?_;refine cw [0,1] ?_;refine zN 2 ?_;refine iH S ?_;intro b1 w2 S3;refine iH S3 ?_;intro b4 w5 S6;refine gq S6 fP ?_;intro b7 w8 S9;refine zN 8 ?_;refine dF eQ ((hR▸Lr ro ep fr tg rd A c l e _ (St.rd 3 S9 rfl) hb)) ?_;rintro _ Ey ⟨EA,c11,ad2,rfl,T15⟩;refine ⟨_,rfl,?_⟩;have kD:=S9.ext T15 rfl;refine zN 2 ?_;refine sa 1 kD kQ ?_;intro w16 kP;refine zN 5 ?_;have jc:=kP.aP [4,3,2,1];exact ⟨EA,c11,by assumption,rfl,jc⟩
theorem wW (ro ep fr tg rd:Int) (A:Option Addr) (c:Nat) (l:List Ev) (kd qu e pe:Int) (x:Ev) (w:World) (h:Rd w w.heap.size 6 A l.length (bg l)) (hb:l.length*48<=reachBytes):
    Calls tP 136 #[.agg #[iV ro,iV ep,iV fr,iV tg,iV rd,.slice A l.length c],.agg (rR kd qu e pe x)] w (kI w (dG ⟨ro,ep,fr,tg,rd,l⟩ e pe)):=by
 have S:=(St.start w).bL h;have hb2:=hb;unfold reachBytes at hb2;obtain ⟨R,hR⟩: ∃ R,dG ⟨ro,ep,fr,tg,rd,l⟩ e pe=R:=⟨_,rfl⟩;rw [hR];refine gu 14 Tryz.func136 ?_;refine cw [0,1] ?_;refine zN 2 ?_;refine iH S ?_;intro b1 w2 S3;refine iH S3 ?_;intro b4 w5 S6;refine gq S6 fP ?_;intro b7 w8 S9;refine zN 10 ?_;refine dF eQ ((hR▸Il ro ep fr tg rd A c l e pe _ (St.rd 3 S9 rfl) hb)) ?_;rintro _ Ey ⟨EA,c11,ad2,rfl,T15⟩;refine ⟨_,rfl,?_⟩;have kD:=S9.ext T15 rfl;refine zN 2 ?_;refine sa 1 kD kQ ?_;intro w16 kP;refine zN 5 ?_;have jc:=kP.aP [4,3,2,1];exact ⟨EA,c11,by assumption,rfl,jc⟩
theorem U7 (ro ep fr tg rd:Int) (A:Option Addr) (c:Nat) (l:List Ev) (kd qu e pe:Int) (x:Ev) (hlc:l.length<=c) (w:World) (h:Rd w w.heap.size 6 A l.length (bg l)) (hb:l.length*48<=reachBytes):
    Calls tP 137 #[.agg #[iV ro,iV ep,iV fr,iV tg,iV rd,.slice A l.length c],.agg (rR kd qu e pe x)] w (kI w (dn ⟨ro,ep,fr,tg,rd,l⟩ e ((l.length:Nat):Int) [] true)):=by
 have S:=(St.start w).bL h;have hb2:=hb;unfold reachBytes at hb2;obtain ⟨R,hR⟩: ∃ R,dn ⟨ro,ep,fr,tg,rd,l⟩ e ((l.length:Nat):Int) [] true=R:=⟨_,rfl⟩;rw [hR];refine gu 15 Tryz.func137 ?_;refine cw [0,1] ?_;refine zN 2 ?_;refine iH S ?_;intro b1 w2 S3;refine iH S3 ?_;intro b4 w5 S6;refine gq S6 fP ?_;intro b7 w8 S9;refine zN 11 ?_;refine dF eQ ((hR▸F7 ro ep fr tg rd A c l e ((l.length:Nat):Int) none 0 [] true hlc (Nat.le_refl 0) _ Rd.none_ (St.rd 3 S9 rfl) hb dQ)) ?_;rintro _ Ey ⟨EA,c11,ad2,rfl,T15⟩;refine ⟨_,rfl,?_⟩;have kD:=S9.ext T15 rfl;refine zN 2 ?_;refine sa 1 kD kQ ?_;intro w16 kP;refine zN 5 ?_;have jc:=kP.aP [4,3,2,1];exact ⟨EA,c11,by assumption,rfl,jc⟩
theorem U8 (ro ep fr tg rd:Int) (A:Option Addr) (c:Nat) (l:List Ev) (kd qu e pe:Int) (x:Ev) (he:0<=e/\e<=1048576) (w:World) (h:Rd w w.heap.size 6 A l.length (bg l)) (hb:l.length*48<=reachBytes):
    Calls tP 138 #[.agg #[iV ro,iV ep,iV fr,iV tg,iV rd,.slice A l.length c],.agg (rR kd qu e pe x)] w (kI w (fZ ⟨ro,ep,fr,tg,rd,l⟩ (e+1))):=by
 have S:=(St.start w).bL h;have hb2:=hb;unfold reachBytes at hb2;obtain ⟨R,hR⟩: ∃ R,fZ ⟨ro,ep,fr,tg,rd,l⟩ (e+1)=R:=⟨_,rfl⟩;rw [hR];refine gu 13 Tryz.func138 ?_;refine cw [0,1] ?_;refine zN 2 ?_;refine iH S ?_;intro b1 w2 S3;refine iH S3 ?_;intro b4 w5 S6;refine gq S6 fP ?_;intro b7 w8 S9;refine zN 8 ?_;refine vv (v:=iV (e+1)) fJ ?_;refine dF eQ ((hR▸F5 ro ep fr tg rd A c l (e+1) _ (St.rd 3 S9 rfl) hb)) ?_;rintro _ Ey ⟨EA,c11,ad2,rfl,T15⟩;refine ⟨_,rfl,?_⟩;have kD:=S9.ext T15 rfl;refine zN 2 ?_;refine sa 1 kD kQ ?_;intro w16 kP;refine zN 5 ?_;have jc:=kP.aP [4,3,2,1];exact ⟨EA,c11,by assumption,rfl,jc⟩
theorem Yl (ro ep fr tg rd:Int) (A:Option Addr) (c:Nat) (l:List Ev) (kd qu e pe:Int) (x:Ev) (hl2:l.length<=2000) (w:World) (h:Rd w w.heap.size 6 A l.length (bg l)) (hb:l.length*48<=reachBytes):
    Calls tP 134 #[.agg #[iV ro,iV ep,iV fr,iV tg,iV rd,.slice A l.length c],.agg (rR kd qu e pe x)] w (kI w (Dw ⟨ro,ep,fr,tg,rd,l⟩ x)):=by
 have S:=(St.start w).bL h;have hb2:=hb;unfold reachBytes at hb2;refine gu 19 Tryz.func134 ?_;refine cw [0,1] ?_;refine zN 2 ?_;refine iH S ?_;intro b1 w2 S3;refine iH S3 ?_;intro b4 w5 S6;refine gq S6 fP ?_;intro b7 w8 S9;refine zN 3 ?_;have qx:=S9.nil 65 6;refine mh (X:=Nat×(Option Addr)×Nat) (λxv=>[(2,pV b1 0),(4,pV b7 0),(5,iV 0)]) (λxv wr=>St w.heap.size w wr [.blk xv.1 #[iV x.kind,iV x.producer,iV x.id,iV x.body,iV x.aG,iV x.hno] 65,.own 65 6 (.slice xv.2.1 ((0+l.length)+1) xv.2.2) ((0+l.length)+1) ((l++[x]).flatMap Ev.cells),.blk b7 zB 57,.blk b4 (rR kd qu e pe x) 171,.blk b1 #[iV ro,iV ep,iV fr,iV tg,iV rd,.slice xv.2.1 ((0+l.length)+1) xv.2.2] 57,.rd 6 A l.length ((l).flatMap Ev.cells)]) ?_ ?_
 ·have qI:=qx.drew;refine fC 9 7 qI [0] ?_;iterate 3 refine gU ?_
  refine gk (v:= .agg #[iV x.kind,iV x.producer,iV x.id,iV x.body,iV x.aG,iV x.hno]) 4 rfl (St.del 0 qI) (λ_ anR=>(aj rfl rfl (cZ (cs:=[iV x.kind,iV x.producer,iV x.id,iV x.body,iV x.aG,iV x.hno]) (St.rg 1 anR rfl (mU (x:=4) (m:=6) rfl))))) ?_;refine aek (m:=4) (r:=2) (s:=5) kQ ?_ ?_
  ·refine kN (i:=2) rfl rfl (news:=(l).flatMap Ev.cells) (xs':=(l).flatMap Ev.cells) 0 qI (wn rfl) rfl rfl rfl rfl rfl rfl (St.rd 4 qI rfl) Tryz.underlying55 oO rfl dQ (fE _) lQ oQ (rfl) ?_;intro A16 c17 MX at1 at5 mq;refine gU ?_;refine fq (m:=3) (r:=5) kQ ?_;refine mo (i:=5) rfl rfl (V:=λb=> .slice (aD b 0) 1 1) (row:= #[iV x.kind,iV x.producer,iV x.id,iV x.body,iV x.aG,iV x.hno]) (t:=65) mq (wn rfl) rfl rfl (aS (vs:=[(0,.agg #[iV x.kind,iV x.producer,iV x.id,iV x.body,iV x.aG,iV x.hno])]) rfl xU kQ) ?_;intro Ta H9 iP;refine gU ?_;refine fq (m:=2) (r:=6) kQ ?_;refine kN (i:=6) rfl rfl (news:=[iV x.kind,iV x.producer,iV x.id,iV x.body,iV x.aG,iV x.hno]) (xs':=(l++[x]).flatMap Ev.cells) 1 iP (wn rfl) rfl rfl rfl rfl rfl rfl (St.lD (xs:=[iV x.kind,iV x.producer,iV x.id,iV x.body,iV x.aG,iV x.hno]) 0 iP rfl rfl rfl) Tryz.underlying55 oO rfl dQ (bM rfl) lQ oQ (iU (enc:=Ev.cells) rfl rfl) ?_;intro A25 c26 MW hc29 aAW qy;refine gU ?_;refine eU kQ rfl rfl rfl ?_;refine zQ ?_;refine Hz 4 qy kQ ?_;intro ZI pU;refine zQ ?_;refine iY ?_;refine bX (Ta,A25,c26) ?_ FJ;exact pU
  refine mo (i:=5) rfl rfl (V:=λb=> .slice (aD b 0) 1 1) (row:= #[iV x.kind,iV x.producer,iV x.id,iV x.body,iV x.aG,iV x.hno]) (t:=65) qI (wn rfl) rfl rfl (aS (vs:=[(0,.agg #[iV x.kind,iV x.producer,iV x.id,iV x.body,iV x.aG,iV x.hno])]) rfl xU kQ) ?_;intro b33 w34 uf;refine gU ?_;refine fq (m:=3) (r:=2) kQ ?_;refine kN (i:=2) rfl rfl (news:=(l).flatMap Ev.cells) (xs':=(l).flatMap Ev.cells) 1 uf (wn rfl) rfl rfl rfl rfl rfl rfl (St.rd 5 uf rfl) Tryz.underlying55 oO rfl dQ (fE _) lQ oQ (rfl) ?_;intro A36 c37 w38 aAX aAY Ck;refine gU ?_;refine fq (m:=2) (r:=6) kQ ?_;refine kN (i:=6) rfl rfl (news:=[iV x.kind,iV x.producer,iV x.id,iV x.body,iV x.aG,iV x.hno]) (xs':=(l++[x]).flatMap Ev.cells) 1 Ck (wn rfl) rfl rfl rfl rfl rfl rfl (St.lD (xs:=[iV x.kind,iV x.producer,iV x.id,iV x.body,iV x.aG,iV x.hno]) 0 Ck rfl rfl rfl) Tryz.underlying55 oO rfl dQ (bM rfl) lQ oQ (iU (enc:=Ev.cells) rfl rfl) ?_;intro A42 c43 QX aJy aJz nX;refine gU ?_;refine eU kQ rfl rfl rfl ?_;refine zQ ?_;refine Hz 4 nX kQ ?_;intro ZG uF;refine zQ ?_;refine iY ?_;refine bX (b33,A42,c43) ?_ FJ;exact uF
 rintro ⟨b50,A51,c52⟩ w53 l7
 try dsimp only at l7
 refine aZ (l':=[(2,pV b1 0),(4,pV b7 0),(5,iV 0)]) FJ (aH (aH (ay (vv (aj rfl rfl (oH 4 l7 rfl Tryz.underlying57 rfl kQ rfl)) ?_))));have hal:(l++[x]).length=(0+l.length)+1:=by simp only [List.length_append,List.length_cons,List.length_nil,List.length_drop,Nat.zero_add]
 have at7:=λ(w:World) (h:Rd w w.heap.size 6 A51 ((l++[x]).length) (bg (l++[x])))=>dZ ro ep fr tg rd A51 c52 (l++[x]) w h oQ;rw [hal] at at7;refine dF eQ (at7 _ (St.ord 1 l7 rfl)) ?_;rintro _ w56 ⟨rfl,aua⟩;refine ⟨_,rfl,?_⟩;have qW:=l7.on aua;clear aua l7;by_cases h59:au ⟨ro,ep,fr,tg,rd,l++[x]⟩=0
 ·have hsh:=(eO h59).1;unfold bq at hsh;have hln:=gJ (eO h59).2;dsimp only at hsh hln;refine zN 9 ?_;refine sa 2 qW kQ ?_;intro w60 Ia;refine zN 5 ?_;have GN:=Ia.aP [5,4,3,2,0];have hcp:=(dY (GN.own 0 rfl)).1;have vP:=GN.bD 0 rfl;rw [show Dw ⟨ro,ep,fr,tg,rd,l⟩ x=(⟨ro,ep,fr,tg,rd,l++[x]⟩,0) from by unfold Dw;(try dsimp only);exact kL];refine ⟨A51,c52,?_,?_,?_⟩
  · dsimp only;rw [hal];exact hcp
  · dsimp only;rw [hal];rfl
  · dsimp only;rw [hal];exact vP
 refine zN 6 ?_;refine vv jl ?_;refine sa 2 qW kQ ?_;intro ZK Bd;refine zN 6 ?_;have F3:=Bd.aP [5,4,3,2,1,0];rw [show Dw ⟨ro,ep,fr,tg,rd,l⟩ x=(⟨0,0,0,0,0,[]⟩,3) from by unfold Dw;(try dsimp only);exact kL];exact ⟨none,0,lZ,rfl,aB F3⟩
theorem Va (ro ep fr tg rd:Int) (A:Option Addr) (c:Nat) (l:List Ev) (kd qu e pe:Int) (x:Ev) (w:World) (h:Rd w w.heap.size 6 A l.length (bg l)) (hb:l.length*48<=reachBytes):
    Calls tP 135 #[.agg #[iV ro,iV ep,iV fr,iV tg,iV rd,.slice A l.length c],.agg (rR kd qu e pe x)] w λe w'=>e= .returned (.tuple #[.agg #[iV 3,iV ep,iV fr,iV pe,iV rd,.slice A l.length c],iV 0])/\Below w.heap.size w w':=by
 have S:=(St.start w).bL h;have hb2:=hb;unfold reachBytes at hb2;refine gu 11 Tryz.func135 ?_;refine cw [0,1] ?_;refine zN 2 ?_;refine iH S ?_;intro b1 w2 S3;refine iH S3 ?_;intro b4 w5 S6;refine gq S6 fP ?_;intro b7 w8 S9;refine zN 4 ?_;have qx:=S9.drew;refine aN 6 qx [2] ?_;refine aL 3 ?_;refine aU 3 ?_;refine snz (row':= #[iV 3,iV ep,iV fr,iV tg,iV rd,.slice A l.length c]) 3 rfl 2 qx kQ ?_;intro JO iG;refine aL 2 ?_;refine aU 5 ?_;refine snz (row':= #[iV 3,iV ep,iV fr,iV pe,iV rd,.slice A l.length c]) 5 rfl 2 iG kQ ?_;intro Lb jc;refine aL 2 ?_;refine zN 4 ?_;refine sa 0 jc kQ ?_;intro FX mM;refine zN 5 ?_;exact ⟨rfl,mM.low⟩
theorem Ti (ro ep fr tg rd:Int) (A:Option Addr) (c:Nat) (l:List Ev) (kd qu e pe:Int) (x:Ev) (z:Int) (b1 b2:Nat) (hl2:l.length<=2000) (w:World) (h:Rd w w.heap.size 6 A l.length (bg l)) (hb:l.length*48<=reachBytes) (h1:Rd w w.heap.size 1 (aD b1 0) 1 [iV z]) (h2:Rd w w.heap.size 1 (aD b2 0) 1 [.func (.func 134) #[] #[]]):
    Calls tP 148 #[.agg #[iV ro,iV ep,iV fr,iV tg,iV rd,.slice A l.length c],.agg (rR kd qu e pe x),pV b1 0,pV b2 0] w (kI w (if ¬ (ro=z/\ep=e) then (bF,3) else Dw ⟨ro,ep,fr,tg,rd,l⟩ x)):=by
 have S:=(((St.start w).bL h2).bL h1).bL h;have hb2:=hb;unfold reachBytes at hb2;obtain ⟨R,hR⟩: ∃ R,Dw ⟨ro,ep,fr,tg,rd,l⟩ x=R:=⟨_,rfl⟩;rw [hR];refine gu 26 Tryz.func148 ?_;refine cw [0,1,2,3] ?_;refine zN 2 ?_;refine iH S ?_;intro b1 w2 S3;refine iH S3 ?_;intro b4 w5 S6;refine gq S6 fP ?_;intro b7 w8 S9;refine zN 8 ?_;refine vv (v:=iV z) (aj rfl rfl (aC (Rd.cl (j:=0) (St.rd 4 S9 rfl) rfl))) ?_;by_cases h10:ro=z
 ·refine zN 6 ?_;by_cases h11:ep=e
  ·refine zN 9 ?_;refine vv (v:= .func (.func 134) #[] #[]) (aj rfl rfl (aC (Rd.cl (j:=0) (St.rd 5 S9 rfl) rfl))) ?_;refine zN 2 ?_;refine wM eQ ((hR▸Yl ro ep fr tg rd A c l kd qu e pe x hl2 _ (St.rd 3 S9 rfl) hb)) ?_;rintro _ JV ⟨Q0,c13,amU,rfl,T17⟩;refine ⟨_,rfl,?_⟩;have lV:=S9.ext T17 rfl;refine zN 2 ?_;refine sa 1 lV kQ ?_;intro MX mq;refine zN 5 ?_;rw [if_neg oQ];have mM:=mq.aP [6,5,4,3,2,1];exact ⟨Q0,c13,by assumption,rfl,mM⟩
  refine zN 7 ?_;refine vv jl ?_;refine sa 0 S9 kQ ?_;intro DW iX;refine zN 6 ?_;have oh:=iX.aP [5,4,3,2,1,0];rw [if_pos oQ];exact ⟨none,0,Nat.zero_le _,rfl,aB oh⟩
 refine zN 13 ?_;refine vv jl ?_;refine sa 0 S9 kQ ?_;intro Oq jE;refine zN 6 ?_;have l6:=jE.aP [5,4,3,2,1,0];rw [if_pos oQ];exact ⟨none,0,Nat.zero_le _,rfl,aB l6⟩
theorem o8 (ro ep fr tg rd:Int) (A:Option Addr) (c:Nat) (l:List Ev) (kd qu e pe:Int) (x:Ev) (z:Int) (b1 b2:Nat) (w:World) (h:Rd w w.heap.size 6 A l.length (bg l)) (hb:l.length*48<=reachBytes) (h1:Rd w w.heap.size 1 (aD b1 0) 1 [iV z]) (h2:Rd w w.heap.size 1 (aD b2 0) 1 [.func (.func 135) #[] #[]]):
    Calls tP 148 #[.agg #[iV ro,iV ep,iV fr,iV tg,iV rd,.slice A l.length c],.agg (rR kd qu e pe x),pV b1 0,pV b2 0] w λe' w'=>(¬ (ro=z/\ep=e)/\e'= .returned (.tuple #[.agg zB,iV 3])\/(ro=z/\ep=e)/\e'= .returned (.tuple #[.agg #[iV 3,iV ep,iV fr,iV pe,iV rd,.slice A l.length c],iV 0]))/\Below w.heap.size w w':=by
 have S:=(((St.start w).bL h2).bL h1).bL h;have hb2:=hb;unfold reachBytes at hb2;refine gu 26 Tryz.func148 ?_;refine cw [0,1,2,3] ?_;refine zN 2 ?_;refine iH S ?_;intro b1 w2 S3;refine iH S3 ?_;intro b4 w5 S6;refine gq S6 fP ?_;intro b7 w8 S9;refine zN 8 ?_;refine vv (v:=iV z) (aj rfl rfl (aC (Rd.cl (j:=0) (St.rd 4 S9 rfl) rfl))) ?_;by_cases h10:ro=z
 ·refine zN 6 ?_;by_cases h11:ep=e
  ·refine zN 9 ?_;refine vv (v:= .func (.func 135) #[] #[]) (aj rfl rfl (aC (Rd.cl (j:=0) (St.rd 5 S9 rfl) rfl))) ?_;refine zN 2 ?_;refine wM eQ (Va ro ep fr tg rd A c l kd qu e pe x _ (St.rd 3 S9 rfl) hb) ?_;rintro _ ZC ⟨rfl,aAZ⟩;refine ⟨_,rfl,?_⟩;have uZ:=S9.on aAZ;refine zN 2 ?_;refine sa 0 uZ kQ ?_;intro JV lV;refine zN 5 ?_;exact ⟨.inr ⟨by omega,rfl⟩,lV.low⟩
  refine zN 7 ?_;refine vv jl ?_;refine sa 0 S9 kQ ?_;intro Lb jc;refine zN 6 ?_;exact ⟨.inl ⟨by omega,rfl⟩,jc.low⟩
 refine zN 13 ?_;refine vv jl ?_;refine sa 0 S9 kQ ?_;intro FX mM;refine zN 6 ?_;exact ⟨.inl ⟨by omega,rfl⟩,mM.low⟩
theorem agA (ro ep fr tg rd:Int) (A:Option Addr) (c:Nat) (l:List Ev) (kd qu e pe:Int) (x:Ev) (z:Int) (b1 b2:Nat) (hlc:l.length<=c) (w:World) (h:Rd w w.heap.size 6 A l.length (bg l)) (hb:l.length*48<=reachBytes) (h1:Rd w w.heap.size 1 (aD b1 0) 1 [iV z]) (h2:Rd w w.heap.size 1 (aD b2 0) 1 [.func (.func 137) #[] #[]]):
    Calls tP 148 #[.agg #[iV ro,iV ep,iV fr,iV tg,iV rd,.slice A l.length c],.agg (rR kd qu e pe x),pV b1 0,pV b2 0] w (kI w (if ¬ (ro=z/\ep=e) then (bF,3) else dn ⟨ro,ep,fr,tg,rd,l⟩ e ((l.length:Nat):Int) [] true)):=by
 have S:=(((St.start w).bL h2).bL h1).bL h;have hb2:=hb;unfold reachBytes at hb2;obtain ⟨R,hR⟩: ∃ R,dn ⟨ro,ep,fr,tg,rd,l⟩ e ((l.length:Nat):Int) [] true=R:=⟨_,rfl⟩;rw [hR];refine gu 26 Tryz.func148 ?_;refine cw [0,1,2,3] ?_;refine zN 2 ?_;refine iH S ?_;intro b1 w2 S3;refine iH S3 ?_;intro b4 w5 S6;refine gq S6 fP ?_;intro b7 w8 S9;refine zN 8 ?_;refine vv (v:=iV z) (aj rfl rfl (aC (Rd.cl (j:=0) (St.rd 4 S9 rfl) rfl))) ?_;by_cases h10:ro=z
 ·refine zN 6 ?_;by_cases h11:ep=e
  ·refine zN 9 ?_;refine vv (v:= .func (.func 137) #[] #[]) (aj rfl rfl (aC (Rd.cl (j:=0) (St.rd 5 S9 rfl) rfl))) ?_;refine zN 2 ?_;refine wM eQ ((hR▸U7 ro ep fr tg rd A c l kd qu e pe x hlc _ (St.rd 3 S9 rfl) hb)) ?_;rintro _ JV ⟨Q0,c13,amU,rfl,T17⟩;refine ⟨_,rfl,?_⟩;have lV:=S9.ext T17 rfl;refine zN 2 ?_;refine sa 1 lV kQ ?_;intro MX mq;refine zN 5 ?_;rw [if_neg oQ];have mM:=mq.aP [6,5,4,3,2,1];exact ⟨Q0,c13,by assumption,rfl,mM⟩
  refine zN 7 ?_;refine vv jl ?_;refine sa 0 S9 kQ ?_;intro DW iX;refine zN 6 ?_;have oh:=iX.aP [5,4,3,2,1,0];rw [if_pos oQ];exact ⟨none,0,Nat.zero_le _,rfl,aB oh⟩
 refine zN 13 ?_;refine vv jl ?_;refine sa 0 S9 kQ ?_;intro Oq jE;refine zN 6 ?_;have l6:=jE.aP [5,4,3,2,1,0];rw [if_pos oQ];exact ⟨none,0,Nat.zero_le _,rfl,aB l6⟩
theorem agB (ro ep fr tg rd:Int) (A:Option Addr) (c:Nat) (l:List Ev) (kd qu e pe:Int) (x:Ev) (z:Int) (b1 b2:Nat) (he:0<=e/\e<=1048576) (w:World) (h:Rd w w.heap.size 6 A l.length (bg l)) (hb:l.length*48<=reachBytes) (h1:Rd w w.heap.size 1 (aD b1 0) 1 [iV z]) (h2:Rd w w.heap.size 1 (aD b2 0) 1 [.func (.func 138) #[] #[]]):
    Calls tP 148 #[.agg #[iV ro,iV ep,iV fr,iV tg,iV rd,.slice A l.length c],.agg (rR kd qu e pe x),pV b1 0,pV b2 0] w (kI w (if ¬ (ro=z/\ep=e) then (bF,3) else fZ ⟨ro,ep,fr,tg,rd,l⟩ (e+1))):=by
 have S:=(((St.start w).bL h2).bL h1).bL h;have hb2:=hb;unfold reachBytes at hb2;obtain ⟨R,hR⟩: ∃ R,fZ ⟨ro,ep,fr,tg,rd,l⟩ (e+1)=R:=⟨_,rfl⟩;rw [hR];refine gu 26 Tryz.func148 ?_;refine cw [0,1,2,3] ?_;refine zN 2 ?_;refine iH S ?_;intro b1 w2 S3;refine iH S3 ?_;intro b4 w5 S6;refine gq S6 fP ?_;intro b7 w8 S9;refine zN 8 ?_;refine vv (v:=iV z) (aj rfl rfl (aC (Rd.cl (j:=0) (St.rd 4 S9 rfl) rfl))) ?_;by_cases h10:ro=z
 ·refine zN 6 ?_;by_cases h11:ep=e
  ·refine zN 9 ?_;refine vv (v:= .func (.func 138) #[] #[]) (aj rfl rfl (aC (Rd.cl (j:=0) (St.rd 5 S9 rfl) rfl))) ?_;refine zN 2 ?_;refine wM eQ ((hR▸U8 ro ep fr tg rd A c l kd qu e pe x he _ (St.rd 3 S9 rfl) hb)) ?_;rintro _ JV ⟨Q0,c13,amU,rfl,T17⟩;refine ⟨_,rfl,?_⟩;have lV:=S9.ext T17 rfl;refine zN 2 ?_;refine sa 1 lV kQ ?_;intro MX mq;refine zN 5 ?_;rw [if_neg oQ];have mM:=mq.aP [6,5,4,3,2,1];exact ⟨Q0,c13,by assumption,rfl,mM⟩
  refine zN 7 ?_;refine vv jl ?_;refine sa 0 S9 kQ ?_;intro DW iX;refine zN 6 ?_;have oh:=iX.aP [5,4,3,2,1,0];rw [if_pos oQ];exact ⟨none,0,Nat.zero_le _,rfl,aB oh⟩
 refine zN 13 ?_;refine vv jl ?_;refine sa 0 S9 kQ ?_;intro Oq jE;refine zN 6 ?_;have l6:=jE.aP [5,4,3,2,1,0];rw [if_pos oQ];exact ⟨none,0,Nat.zero_le _,rfl,aB l6⟩
theorem sO (z:Int) (n:FuncId) (w:World):
    Calls tP 133 #[iV z,.func (.func n) #[] #[]] w λe w'=> ∃ b1 b2,e= .returned (.func (.func 148) #[] #[pV b1 0,pV b2 0])/\St w.heap.size w w' [.blk b1 #[iV z] 3,.blk b2 #[.func (.func n) #[] #[]] 205]:=by
 have S:=St.start w;refine gu 6 Tryz.func133 ?_;refine cw [0,1] ?_;refine zN 2 ?_;refine VH S ?_;intro b1 w2 S3;refine VH S3 ?_;intro b4 w5 S6;refine zN 5 ?_;refine vv JK ?_;refine zN 5 ?_;have S7:St w.heap.size w w5 [_,_]:=S6.re [1,0] dQ;exact ⟨b1,b4,rfl,S7⟩
def agC (w:World) (e:Ending) (w':World):Prop:= ∃ m d1 g1 d2 g2 d3 g3 d4 g4 d5 g5,e= .returned (.map (some m))/\St w.heap.size w w' [.blk d5 #[iV 3] 3,.blk g5 #[.func (.func 138) #[] #[]] 205,.blk d4 #[iV 4] 3,.blk g4 #[.func (.func 137) #[] #[]] 205,.blk d3 #[iV 4] 3,.blk g3 #[.func (.func 134) #[] #[]] 205,.blk d2 #[iV 1] 3,.blk g2 #[.func (.func 135) #[] #[]] 205,.blk d1 #[iV 1] 3,.blk g1 #[.func (.func 134) #[] #[]] 205,.loc m (p9 tP 3 (λy=>if y=7 then some (.func (.func 148) #[] #[pV d5 0,pV g5 0]) else (λy=>if y=6 then some (.func (.func 148) #[] #[pV d4 0,pV g4 0]) else (λy=>if y=5 then some (.func (.func 148) #[] #[pV d3 0,pV g3 0]) else (λy=>if y=4 then some (.func (.func 136) #[] #[]) else (λy=>if y=3 then some (.func (.func 148) #[] #[pV d2 0,pV g2 0]) else (λy=>if y=2 then some (.func (.func 148) #[] #[pV d1 0,pV g1 0]) else (λy=>if y=1 then some (.func (.func 132) #[] #[]) else (λ_=>none) y) y) y) y) y) y) y) 7)]
theorem nD (w:World):
    Calls tP 100 #[] w (agC w):=by
 have S:=St.start w;refine gu 8 Tryz.func100 ?_;refine aZ (l':=[]) trivial (aH (ay (va ?_)));refine zN 4 ?_;refine Kh (k:=3) S (wn rfl) rfl rfl rfl ?_;intro b1 w2 S3;refine kG (e:=205) 0 S3 (wn rfl) rfl rfl rfl rfl rfl rfl Tryz.underlying3 Tryz.underlying206 dQ dQ ?_;intro w4 S5;refine dF eQ (sO 1 134 _) ?_;rintro _ w8 ⟨b6,b7,rfl,T10⟩;refine ⟨_,rfl,?_⟩;have S9:=S5.ext T10 rfl;refine kG (e:=205) 2 S9 (wn rfl) rfl rfl rfl rfl rfl rfl Tryz.underlying3 Tryz.underlying206 dQ dQ ?_;intro GI l5;refine dF eQ (sO 1 135 _) ?_;rintro _ JV ⟨b13,b14,rfl,T17⟩;refine ⟨_,rfl,?_⟩;have lV:=l5.ext T17 rfl;refine kG (e:=205) 4 lV (wn rfl) rfl rfl rfl rfl rfl rfl Tryz.underlying3 Tryz.underlying206 dQ dQ ?_;intro MX mq;refine kG (e:=205) 4 mq (wn rfl) rfl rfl rfl rfl rfl rfl Tryz.underlying3 Tryz.underlying206 dQ dQ ?_;intro ZF tZ;refine dF eQ (sO 4 134 _) ?_;rintro _ Oq ⟨Ta,Av,rfl,T26⟩;refine ⟨_,rfl,?_⟩;have jE:=tZ.ext T26 rfl;refine kG (e:=205) 6 jE (wn rfl) rfl rfl rfl rfl rfl rfl Tryz.underlying3 Tryz.underlying206 dQ dQ ?_;intro MW qy;refine dF eQ (sO 4 137 _) ?_;rintro _ ZI ⟨b29,b30,rfl,T33⟩;refine ⟨_,rfl,?_⟩;have pU:=qy.ext T33 rfl;refine kG (e:=205) 8 pU (wn rfl) rfl rfl rfl rfl rfl rfl Tryz.underlying3 Tryz.underlying206 dQ dQ ?_;intro w34 uf;refine dF eQ (sO 3 138 _) ?_;rintro _ w38 ⟨qK,b37,rfl,T40⟩;refine ⟨_,rfl,?_⟩;have Ck:=uf.ext T40 rfl;refine kG (e:=205) 10 Ck (wn rfl) rfl rfl rfl rfl rfl rfl Tryz.underlying3 Tryz.underlying206 dQ dQ ?_;intro w41 wo;refine zN 6 ?_;exact ⟨b1,b6,b7,b13,b14,Ta,Av,b29,b30,qK,b37,rfl,wo⟩
def l8 (w:World) (r:bn×Int) (e:Ending) (w':World):Prop:= ∃ A c,∃ _:r.1.evs.length<=c,e= .returned (.tuple #[.agg #[iV r.1.role,iV r.1.ep,iV r.1.fr,iV r.1.tg,iV r.1.rd,.slice A r.1.evs.length c],iV r.2])/\St w.heap.size w w' [.bJ 6 A r.1.evs.length (bg r.1.evs)]
section
variable {b:bn} {r:dD} {qu e pe:Int} {x:Ev}
theorem Bf (h:aJ r=0):1<=r.kind/\r.kind<=7/\0<=r.queue/\r.queue<=3/\0<=r.epoch/\r.epoch<=1048576/\0<=r.peer/\r.peer<=4:=by
 unfold aJ at h
 split at h
 ·cases h
 rename_i h1
 split at h
 ·cases h
 rename_i h2
 simp [jP] at h1 h2;omega
theorem agD (h: ¬ (1<=r.kind/\r.kind<=7)):aJ r=3:=by
 unfold aJ;rw [if_pos (by simp [jP];omega)]
theorem Bg (h: ¬ au b=0):eu b r=(bF,au b):=by unfold eu;rw [if_pos h]
theorem Bh (h:au b=0) (h1: ¬ aJ r=0):eu b r=(bF,aJ r):=by unfold eu;rw [if_neg (λk=>k h),if_pos h1]
theorem BL (h:au b=0) (h1:aJ r=0) (h2:b.role=2\/(r.kind≠3/\r.kind≠4/\r.peer≠0)):eu b r=(bF,3):=by unfold eu;rw [if_neg (λk=>k h),if_neg (λk=>k h1),if_pos h2]
theorem uS (h:au b=0) (h1:aJ r=0) (h3: ¬ (ku b r).2=0):eu b r=(bF,3):=by
 unfold eu;rw [if_neg (λk=>k h),if_neg (λk=>k h1)];split
 ·rfl
 first | rfl | rw [if_pos h3]
theorem jY (h:au b=0) (h1:aJ r=0) (h2: ¬ (b.role=2\/(r.kind≠3/\r.kind≠4/\r.peer≠0))) (h3:(ku b r).2=0):eu b r=((ku b r).1,0):=by
 unfold eu;rw [if_neg (λk=>k h),if_neg (λk=>k h1),if_neg h2,if_neg (λk=>k h3)]
theorem ars:ku b ⟨1,qu,e,pe,x⟩=iR b e:=by simp [ku]
theorem aeP:ku b ⟨2,qu,e,pe,x⟩=if ¬ (b.role=1/\b.ep=e) then (bF,3) else Dw b x:=by simp [ku]
theorem r9:ku b ⟨3,qu,e,pe,x⟩=if ¬ (b.role=1/\b.ep=e) then (bF,3) else WS b pe:=by simp [ku]
theorem aru:ku b ⟨4,qu,e,pe,x⟩=dG b e pe:=by simp [ku]
theorem aeQ:ku b ⟨5,qu,e,pe,x⟩=if ¬ (b.role=4/\b.ep=e) then (bF,3) else Dw b x:=by simp [ku]
theorem arv:ku b ⟨6,qu,e,pe,x⟩=if ¬ (b.role=4/\b.ep=e) then (bF,3) else dn b e b.evs.length [] true:=by simp [ku]
theorem arw:ku b ⟨7,qu,e,pe,x⟩=if ¬ (b.role=3/\b.ep=e) then (bF,3) else fZ b (e+1):=by simp [ku]
theorem agE {a:Int}:(dn b e a [] true).1.evs.length<=b.evs.length+1:=by
 unfold dn
 repeat' split
 all_goals simp [bF]
theorem Fh:(ku b r).1.evs.length<=b.evs.length+1:=by
 have h6:=agE (b:=b) (e:=r.epoch) (a:=b.evs.length);unfold ku
 (repeat' split)<;>first | exact h6 | (unfold iR;(repeat' split)<;>simp [bF]) | (unfold dG;(repeat' split)<;>simp [bF]) | (unfold fZ;(repeat' split)<;>simp [bF]) | (unfold Dw;(repeat' split)<;>simp [bF]) | simp [bF,WS]
end
theorem Ji {P:Program} {f:FuncId} {vs:Array Value} {w:World} {p:Prop} {X Y:Ending} {B:Nat} (h:Calls P f vs w (λe' w'=>(¬ p/\e'=X\/p/\e'=Y)/\Below B w w')) (hp:p):Calls P f vs w (λe' w'=>e'=Y/\Below B w w'):=
 h.mono λ_ _ k=>⟨k.1.elim (λq=>absurd hp q.1) (λq=>q.2),k.2⟩
theorem Ow {P:Program} {f:FuncId} {vs:Array Value} {w:World} {p:Prop} {X Y:Ending} {B:Nat} (h:Calls P f vs w (λe' w'=>(¬ p/\e'=X\/p/\e'=Y)/\Below B w w')) (hp: ¬ p):Calls P f vs w (λe' w'=>e'=X/\Below B w w'):=
 h.mono λ_ _ k=>⟨k.1.elim (λq=>q.2) (λq=>absurd q.1 hp),k.2⟩
theorem St.yL {B:Nat} {w0 w:World} {fs:List Fact} {b:Nat} {R R':Obj->Prop} (i:Nat) (S:St B w0 w fs) (hi:fs[i]? =some (.loc b R)) (h: ∀ o,R o->R' o):St B w0 w (fs.set i (.loc b R')):=by
 obtain ⟨o,ho,hR⟩:=S.loc i hi;exact S.VB i hi ⟨rfl,rfl,rfl,rfl,λ_ _=>rfl⟩ ho (h _ hR)
theorem qY {P:Program} {k:TypeId} {f:Int->Option Value} {n:Nat} {o:Obj} {z:Int} {v:Value} (h:p9 P k f n o) (hf:f z=some v):p9 P k (λy=>if y=z then some v else none) n o:=by
 obtain ⟨es,c,e,h⟩:=h;refine ⟨es,c,e,λw b hb=>?_⟩;obtain ⟨D,h1,h2⟩:=h w b hb;refine ⟨D,h1,λy u hu=>?_⟩;dsimp only at hu;by_cases hy:y=z
 ·rw [if_pos hy] at hu;cases hu;rw [hy];exact h2 z v hf
 rw [if_neg hy] at hu;cases hu
theorem Tj (w:World):Calls tP 100 #[] w λe w'=> ∃ m,e= .returned (.map (some m))/\St w.heap.size w w' [.loc m (p9 tP 3 (λy=>if y=1 then some (.func (.func 132) #[] #[]) else none) 7)]:=
 (nD w).mono λ_ _ ⟨m,d1,g1,d2,g2,d3,g3,d4,g4,d5,g5,h,S⟩=>⟨m,h,(St.del 0 (St.del 1 (St.del 2 (St.del 3 (St.del 4 (St.del 5 (St.del 6 (St.del 7 (St.del 8 (St.del 9 (St.yL 10 S rfl (λ_ h=>qY h (z:=1) rfl))))))))))))⟩
theorem agF (w:World):Calls tP 100 #[] w λe w'=> ∃ m d1 g1,e= .returned (.map (some m))/\St w.heap.size w w' [.blk d1 #[iV 1] 3,.blk g1 #[.func (.func 134) #[] #[]] 205,.loc m (p9 tP 3 (λy=>if y=2 then some (.func (.func 148) #[] #[pV d1 0,pV g1 0]) else none) 7)]:=
 (nD w).mono λ_ _ ⟨m,d1,g1,d2,g2,d3,g3,d4,g4,d5,g5,h,S⟩=>⟨m,d1,g1,h,(St.del 0 (St.del 1 (St.del 2 (St.del 3 (St.del 4 (St.del 5 (St.del 6 (St.del 7 (St.yL 10 S rfl (λ_ h=>qY h (z:=2) rfl))))))))))⟩
theorem Tk (w:World):Calls tP 100 #[] w λe w'=> ∃ m d2 g2,e= .returned (.map (some m))/\St w.heap.size w w' [.blk d2 #[iV 1] 3,.blk g2 #[.func (.func 135) #[] #[]] 205,.loc m (p9 tP 3 (λy=>if y=3 then some (.func (.func 148) #[] #[pV d2 0,pV g2 0]) else none) 7)]:=
 (nD w).mono λ_ _ ⟨m,d1,g1,d2,g2,d3,g3,d4,g4,d5,g5,h,S⟩=>⟨m,d2,g2,h,(St.del 0 (St.del 1 (St.del 2 (St.del 3 (St.del 4 (St.del 5 (St.del 8 (St.del 9 (St.yL 10 S rfl (λ_ h=>qY h (z:=3) rfl))))))))))⟩
theorem Tm (w:World):Calls tP 100 #[] w λe w'=> ∃ m,e= .returned (.map (some m))/\St w.heap.size w w' [.loc m (p9 tP 3 (λy=>if y=4 then some (.func (.func 136) #[] #[]) else none) 7)]:=
 (nD w).mono λ_ _ ⟨m,d1,g1,d2,g2,d3,g3,d4,g4,d5,g5,h,S⟩=>⟨m,h,(St.del 0 (St.del 1 (St.del 2 (St.del 3 (St.del 4 (St.del 5 (St.del 6 (St.del 7 (St.del 8 (St.del 9 (St.yL 10 S rfl (λ_ h=>qY h (z:=4) rfl))))))))))))⟩
theorem agG (w:World):Calls tP 100 #[] w λe w'=> ∃ m d3 g3,e= .returned (.map (some m))/\St w.heap.size w w' [.blk d3 #[iV 4] 3,.blk g3 #[.func (.func 134) #[] #[]] 205,.loc m (p9 tP 3 (λy=>if y=5 then some (.func (.func 148) #[] #[pV d3 0,pV g3 0]) else none) 7)]:=
 (nD w).mono λ_ _ ⟨m,d1,g1,d2,g2,d3,g3,d4,g4,d5,g5,h,S⟩=>⟨m,d3,g3,h,(St.del 0 (St.del 1 (St.del 2 (St.del 3 (St.del 6 (St.del 7 (St.del 8 (St.del 9 (St.yL 10 S rfl (λ_ h=>qY h (z:=5) rfl))))))))))⟩
theorem agH (w:World):Calls tP 100 #[] w λe w'=> ∃ m d4 g4,e= .returned (.map (some m))/\St w.heap.size w w' [.blk d4 #[iV 4] 3,.blk g4 #[.func (.func 137) #[] #[]] 205,.loc m (p9 tP 3 (λy=>if y=6 then some (.func (.func 148) #[] #[pV d4 0,pV g4 0]) else none) 7)]:=
 (nD w).mono λ_ _ ⟨m,d1,g1,d2,g2,d3,g3,d4,g4,d5,g5,h,S⟩=>⟨m,d4,g4,h,(St.del 0 (St.del 1 (St.del 4 (St.del 5 (St.del 6 (St.del 7 (St.del 8 (St.del 9 (St.yL 10 S rfl (λ_ h=>qY h (z:=6) rfl))))))))))⟩
theorem agI (w:World):Calls tP 100 #[] w λe w'=> ∃ m d5 g5,e= .returned (.map (some m))/\St w.heap.size w w' [.blk d5 #[iV 3] 3,.blk g5 #[.func (.func 138) #[] #[]] 205,.loc m (p9 tP 3 (λy=>if y=7 then some (.func (.func 148) #[] #[pV d5 0,pV g5 0]) else none) 7)]:=
 (nD w).mono λ_ _ ⟨m,d1,g1,d2,g2,d3,g3,d4,g4,d5,g5,h,S⟩=>⟨m,d5,g5,h,(St.del 2 (St.del 3 (St.del 4 (St.del 5 (St.del 6 (St.del 7 (St.del 8 (St.del 9 (St.yL 10 S rfl (λ_ h=>qY h (z:=7) rfl))))))))))⟩
theorem Lv (k:Int) (h:k≠3/\k≠4) (w:World):
    Calls tP 99 #[iV k] w (FW w true):=by
 have S:=St.start w;refine gu 9 Tryz.func99 ?_;refine cw [0] ?_;refine zN 18 ?_;exact ⟨rfl,S.low⟩
theorem Lx (k:Int) (h:k=3\/k=4) (w:World):
    Calls tP 99 #[iV k] w (FW w false):=by
 have S:=St.start w;refine gu 9 Tryz.func99 ?_;refine cw [0] ?_;refine zN 8 ?_;by_cases h1:k=3
 ·refine zN 10 ?_;exact ⟨rfl,S.low⟩
 refine zN 3 ?_;by_cases h2:k=4
 ·refine zN 7 ?_;exact ⟨rfl,S.low⟩
 refine zN 7 ?_;omega
def Jj (T:List bn) (q:Int):bn:=T.getD q.toNat bF
noncomputable def nT:List dD->Nat->List bn->Option (List bn)×Nat×Int
 | [],_,T=>(some T,0,0)
 | r::rs,i,T=>if aJ r≠0 then (none,i,aJ r) else if (eu (Jj T r.queue) r).2≠0 then (none,i,(eu (Jj T r.queue) r).2) else nT rs (i+1) (T.set r.queue.toNat (eu (Jj T r.queue) r).1)
noncomputable def allM (l:List dD):Option (List bn)×Nat×Int:=nT l 0 [bF,bF,bF,bF]
section
variable {l:List dD} {k:Nat} {r:dD} {T:List bn} {R:bn×Int}
theorem drop_cons {α:Type} {l:List α} {k:Nat} {x:α} (h:l[k]? =some x):l.drop k=x::l.drop (k+1):=by
 obtain ⟨hk,rfl⟩:=List.getElem?_eq_some_iff.1 h;exact List.drop_eq_getElem_cons hk
theorem ak2 (h:l[k]? =some r) (hf: ¬ aJ r=0):nT (l.drop k) k T=(none,k,aJ r):=by rw [drop_cons h,nT,if_pos hf]
theorem ZL (h:l[k]? =some r) (hf:aJ r=0) (hR:eu (Jj T r.queue) r=R) (ha: ¬ R.2=0):nT (l.drop k) k T=(none,k,R.2):=by subst hR;rw [drop_cons h,nT,if_neg (by simp [hf]),if_pos ha]
theorem Tn (h:l[k]? =some r) (hf:aJ r=0) (hR:eu (Jj T r.queue) r=R) (ha:R.2=0):nT (l.drop k) k T=nT (l.drop (k+1)) (k+1) (T.set r.queue.toNat R.1):=by subst hR;rw [drop_cons h,nT,if_neg (by simp [hf]),if_neg (by simp [ha])]
theorem ak3 (h:l.length<=k):nT (l.drop k) k T=(some T,0,0):=by rw [List.drop_of_length_le h,nT]
end
structure BX where
 b:bn
 A:Option Addr
 c:Nat
def BX.cells (x:BX):List Value:=[iV x.b.role,iV x.b.ep,iV x.b.fr,iV x.b.tg,iV x.b.rd,.slice x.A x.b.evs.length x.c]
def Rh:BX:=⟨bF,none,0⟩
def sU:List BX:=[Rh,Rh,Rh,Rh]
theorem ak4 (l:List BX): ∀ u∈l.flatMap BX.cells,u.oneCell'=true:=by
 intro u hu;rw [List.mem_flatMap] at hu;obtain ⟨z,_,hz⟩:=hu;simp [BX.cells] at hz
 rcases hz with rfl | rfl | rfl | rfl | rfl | rfl<;>rfl
def aeR (x:BX):Fact:= .bJ 6 x.A x.b.evs.length (bg x.b.evs)
def fB (bs:List BX):List Fact:=bs.map aeR
section
variable {B:Nat} {w0 w:World} {bs:List BX} {k:Nat} {y:BX}
theorem ak5 {q:Int} (h:bs[q.toNat]? =some y):Jj (bs.map BX.b) q=y.b:=by
 unfold Jj;rw [List.getD_eq_getElem?_getD,List.getElem?_map,h];rfl
theorem aeS (pre:List Fact) (S:St B w0 w (pre++fB bs)) (h:bs[k]? =some y):Rd w w.heap.size 6 y.A y.b.evs.length (bg y.b.evs):=
 St.bJ (pre.length+k) S (by rw [List.getElem?_append_right (Nat.le_add_right _ _),Nat.add_sub_cancel_left,fB,List.getElem?_map,h];rfl)
theorem St.pull {fs fs':List Fact} (σ:Nat->Nat) (S:St B w0 w fs) (hs: ∀ (i:Nat) (f:Fact),fs'[i]? =some f->fs[σ i]? =some f) (hi: ∀ i j:Nat,i≠j->i<fs'.length->j<fs'.length->σ i≠σ j):St B w0 w fs':=
 ⟨S.low,S.base,λi f h=>S.all _ f (hs i f h),λi j f g hij h1 h2=>S.sep _ _ f g (hi i j hij (List.getElem?_eq_some_iff.1 h1).1 (List.getElem?_eq_some_iff.1 h2).1) (hs i f h1) (hs j g h2)⟩
theorem aeT (pre:List Fact) {z:BX} (S:St B w0 w (pre++(aeR z::fB bs))) (hk:k<bs.length):St B w0 w (pre++fB (bs.set k z)):=by
 refine St.pull (λi=>if i<pre.length then i else if i=pre.length+k then pre.length else i+1) S (λi f h=>?_) (λi j hij _ _=>?_)
 ·by_cases h1:i<pre.length
  ·simp only [if_pos h1];rw [List.getElem?_append_left h1] at h⊢;exact h
  obtain ⟨d,rfl⟩: ∃ d,i=pre.length+d:=⟨i-pre.length,by omega⟩;rw [List.getElem?_append_right (Nat.le_add_right _ _),Nat.add_sub_cancel_left,fB,List.map_set,List.getElem?_set] at h;simp only [if_neg h1];by_cases h2:k=d
  ·subst h2;rw [if_pos rfl] at h;rw [if_pos rfl,List.getElem?_append_right (Nat.le_refl _),Nat.sub_self];rw [List.length_map,if_pos hk] at h;exact h
  rw [if_neg h2] at h;rw [if_neg oQ,List.getElem?_append_right oQ,show pre.length+d+1-pre.length=d+1 from by omega];exact h
 repeat' split
 all_goals omega
theorem ak6 {f1 f2:Fact} (S:St B w0 w [f1,f2]):St B w0 w (f1::f2::fB sU):=(aB (s:=6) (aB (s:=6) (aB (s:=6) (aB (s:=6) S)))).re [4,5,0,1,2,3] dQ
end
theorem qA {α:Type} {enc:α->List Value} {sz:Nat} (hsz: ∀ x,(enc x).length=sz) (z:α): ∀ (k:Nat) (l:List α),k<l.length->sH (l.flatMap enc) (k*sz) (enc z)=(l.set k z).flatMap enc
 | _,[],h=>absurd h (Nat.not_lt_zero _)
 | 0,x::l,_=>by
  rw [List.flatMap_cons,Nat.zero_mul,List.set_cons_zero,List.flatMap_cons];have: ∀ (vs us xs:List Value),us.length=vs.length->sH (us++xs) 0 vs=vs++xs:=by
   have gen: ∀ (vs us ps xs:List Value),us.length=vs.length->sH (ps++(us++xs)) ps.length vs=ps++(vs++xs):=by
    intro vs
    induction vs with
    | nil=>intro us ps xs h;rw [List.length_eq_zero_iff.1 h];rfl
    | cons v vs ih=>
     intro us ps xs h;obtain ⟨u,us,rfl⟩: ∃ u us',us=u::us':=by
      cases us with
      | nil=>simp at h
      | cons u us=>exact ⟨u,us,rfl⟩
     rw [sH];have e:(ps++(u::us++xs)).set ps.length v=(ps++[v])++(us++xs):=by simp
     rw [e];have:=ih us (ps++[v]) xs (by simpa using h);rw [List.length_append] at this;rw [show ps.length+1=ps.length+[v].length from rfl,this];simp
   intro vs us xs h;exact gen vs us [] xs h
  exact this _ _ _ (by rw [hsz,hsz])
 | k+1,x::l,h=>by
  rw [List.flatMap_cons,List.set_cons_succ,List.flatMap_cons,<-qA hsz z k l (by simpa using h)];have gen: ∀ (vs us xs:List Value) (j:Nat),sH (us++xs) (us.length+j) vs=us++sH xs j vs:=by
   intro vs
   induction vs with
   | nil=>intro us xs j;rfl
   | cons v vs ih=>
    intro us xs j;rw [sH,sH,List.set_append_right _ _ (Nat.le_add_right _ _),Nat.add_sub_cancel_left,Nat.add_assoc,ih]
  rw [Nat.succ_mul,Nat.add_comm,<-hsz x,gen]
def arx (w:World) (R:Option (List bn)×Nat×Int) (e:Ending) (w':World):Prop:=
 (R.1=none->e= .returned (.tuple #[.slice none 0 0,iV ((R.2.1:Nat):Int),iV R.2.2])/\Below w.heap.size w w')/\
 (∀ T,R.1=some T-> ∃ b bs,bs.map BX.b=T/\bs.length=4/\(∀ y∈bs,y.b.evs.length<=y.c)/\e= .returned (.tuple #[.slice (some ⟨b,0,none⟩) 4 4,iV ((R.2.1:Nat):Int),iV R.2.2])/\St w.heap.size w w' (.own 57 6 (.slice (some ⟨b,0,none⟩) 4 4) 4 (bs.flatMap BX.cells)::fB bs))
theorem abQ {b:bn} {r:dD}:(eu b r).1.evs.length<=b.evs.length+1:=by
 have h:=Fh (b:=b) (r:=r);unfold eu
 repeat' split
 all_goals first | exact h | simp [bF]
theorem agJ (ro ep fr tg rd:Int) (A:Option Addr) (c:Nat) (l:List Ev) (kd qu e pe:Int) (x:Ev) (hk: ¬ (1<=kd/\kd<=7)) (w:World) (h:Rd w w.heap.size 6 A l.length (bg l)) (hb:l.length*48<=reachBytes):
    Calls Tryz.prog 77 #[.agg #[iV ro,iV ep,iV fr,iV tg,iV rd,.slice A l.length c],.agg #[iV kd,iV qu,iV e,iV pe,iV x.kind,iV x.producer,iV x.id,iV x.body,iV x.aG,iV x.hno]] w (l8 w (eu ⟨ro,ep,fr,tg,rd,l⟩ ⟨kd,qu,e,pe,x⟩)):=by
 have S:=(St.start w).bL h;have hb2:=hb;unfold reachBytes at hb2;refine gu 54 Tryz.func77 ?_;refine cw [0,1] ?_;refine zN 2 ?_;refine iH S ?_;intro b1 w2 S3;refine iH S3 ?_;intro b4 w5 S6;refine gq S6 fP ?_;intro b7 w8 S9;refine zN 7 ?_;refine cab eQ S9 (dZ ro ep fr tg rd A c l _ (St.rd 3 S9 rfl) oQ) ?_;intro ZE qI;refine zN 6 ?_;by_cases pR:au ⟨ro,ep,fr,tg,rd,l⟩=0
 ·have hln:=gJ (eO pR).2;dsimp only at hln;refine zN 10 ?_;refine cab eQ qI (jH ⟨kd,qu,e,pe,x⟩ _) ?_;intro JO iG;refine zN 6 ?_;have hne: ¬ aJ ⟨kd,qu,e,pe,x⟩=0:=by rw [agD (by exact hk)];decide
  refine zN 6 ?_;refine vv jl ?_;refine zQ ?_;refine sa 0 iG kQ ?_;intro Lb jc;refine zN 6 ?_;have mq:=jc.aP [3,2,1,0];rw [Bh pR hne];exact ⟨none,0,Nat.le_refl 0,rfl,aB mq⟩
 refine zN 6 ?_;refine vv jl ?_;refine zQ ?_;refine sa 0 qI kQ ?_;intro ZF tZ;refine zN 6 ?_;have iX:=tZ.aP [3,2,1,0];rw [Bg pR];exact ⟨none,0,Nat.le_refl 0,rfl,aB iX⟩
theorem agK (ro ep fr tg rd:Int) (A:Option Addr) (c:Nat) (l:List Ev) (qu e pe:Int) (x:Ev) (hlc:l.length<=c) (w:World) (h:Rd w w.heap.size 6 A l.length (bg l)) (hb:l.length*48<=reachBytes):
    Calls Tryz.prog 77 #[.agg #[iV ro,iV ep,iV fr,iV tg,iV rd,.slice A l.length c],.agg #[iV 3,iV qu,iV e,iV pe,iV x.kind,iV x.producer,iV x.id,iV x.body,iV x.aG,iV x.hno]] w (l8 w (eu ⟨ro,ep,fr,tg,rd,l⟩ ⟨3,qu,e,pe,x⟩)):=by
 have S:=(St.start w).bL h;have hb2:=hb;unfold reachBytes at hb2;refine gu 54 Tryz.func77 ?_;refine cw [0,1] ?_;refine zN 2 ?_;refine iH S ?_;intro b1 w2 S3;refine iH S3 ?_;intro b4 w5 S6;refine gq S6 fP ?_;intro b7 w8 S9;refine zN 7 ?_;refine cab eQ S9 (dZ ro ep fr tg rd A c l _ (St.rd 3 S9 rfl) oQ) ?_;intro ZE qI;refine zN 6 ?_;by_cases pR:au ⟨ro,ep,fr,tg,rd,l⟩=0
 ·have hln:=gJ (eO pR).2;dsimp only at hln;refine zN 10 ?_;refine cab eQ qI (jH ⟨3,qu,e,pe,x⟩ _) ?_;intro JO iG;refine zN 6 ?_;by_cases u7:aJ ⟨3,qu,e,pe,x⟩=0
  ·have hrz:=Bf u7;dsimp only at hrz;refine zN 11 ?_;by_cases h18:ro=2
   ·refine zN 16 ?_;refine vv jl ?_;refine sa 0 iG kQ ?_;intro FX mM;refine zN 6 ?_;have tZ:=mM.aP [3,2,1,0];rw [BL pR u7 uQ];exact ⟨none,0,Nat.le_refl 0,rfl,aB tZ⟩
   refine zN 4 ?_;refine xY eQ (Lx 3 dQ _) ?_;rintro _ w22 ⟨rfl,Ox⟩;refine ⟨_,rfl,?_⟩;have oh:=iG.on Ox;refine zN 12 ?_;have jE:=oh.drew;refine aN 13 jE [] ?_;refine aL 4 ?_;refine gH (n:=8) (r:=0) (s:=10) kQ ?_ ?_
   ·refine jI 0 rfl eQ (Tk _) ?_;rintro _ ZA ⟨m30,d31,g32,rfl,T35⟩;refine ⟨_,rfl,?_⟩;have qo:=jE.ext T35 rfl;refine cO ?_;refine gH (n:=7) (r:=3) (s:=10) kQ ?_ ?_
    ·refine je (i:=3) rfl rfl (v:= .func (.func 148) #[] #[pV d31 0,pV g32 0]) (wn rfl) rfl rfl (jS 2 qo rfl rfl rfl rfl Tryz.underlying3 Tryz.underlying206 (Tryz.zeroValue205 _) dQ rfl) ?_;refine cO ?_;refine gH (n:=6) (r:=6) (s:=10) kQ ?_ ?_
     ·by_cases hfit:ro=1/\ep=e
      ·refine mW 6 rfl eQ (Ji (o8 ro ep fr tg rd A c l 3 qu e pe x 1 d31 g32 _ (St.rd 6 qo rfl) hb (St.lD (xs:=[iV 1]) 0 qo rfl rfl rfl) (St.lD (xs:=[.func (.func 135) #[] #[]]) 1 qo rfl rfl rfl)) hfit) ?_;rintro _ w36 ⟨rfl,aA0⟩;refine ⟨_,rfl,?_⟩;have qz:=qo.on aA0;refine aL 4 ?_;refine aU 10 ?_;refine lH 10 rfl qz fP ?_;intro ZM w43 Dc;refine cO ?_;refine aU 11 ?_;refine sn 11 rfl 0 Dc kQ ?_;intro w45 rX;refine aL 3 ?_;refine zN 12 ?_;have vO:=rX.nil 65 6;refine zN 3 ?_;refine dx (news:=(l).flatMap Ev.cells) (xs':=(l).flatMap Ev.cells) 0 vO (wn rfl) rfl rfl rfl rfl rfl rfl (St.rd 8 vO rfl) Tryz.underlying55 oO rfl dQ (fE _) lQ oQ (rfl) ?_;intro A49 c50 SX aJA aJB lU;refine zQ ?_;refine Hz 1 lU kQ ?_;intro w55 F4;refine zN 5 ?_;refine sa 5 F4 kQ ?_;intro w57 D6;refine zN 5 ?_;have Ar:=D6.aP [8,7,6,5,4,3,2,1];rw [jY pR u7 uQ (by rw [r9,if_neg (λh=>h hfit)];rfl),r9,if_neg (λh=>h hfit)];rw [Nat.zero_add] at Ar⊢;exact ⟨A49,c50,(dY (Ar.own 0 rfl)).1,rfl,Ar.bD 0 rfl⟩
      refine mW 6 rfl eQ (Ow (o8 ro ep fr tg rd A c l 3 qu e pe x 1 d31 g32 _ (St.rd 6 qo rfl) hb (St.lD (xs:=[iV 1]) 0 qo rfl rfl rfl) (St.lD (xs:=[.func (.func 135) #[] #[]]) 1 qo rfl rfl rfl)) hfit) ?_;rintro _ w60 ⟨rfl,aud⟩;refine ⟨_,rfl,?_⟩;have Ia:=qo.on aud;refine aL 4 ?_;refine aU 10 ?_;refine lH 10 rfl Ia fP ?_;intro b66 w67 Bc;refine cO ?_;refine aU 11 ?_;refine sn 11 rfl 0 Bc kQ ?_;intro w69 uh;refine aL 3 ?_;refine zN 11 ?_;refine vv jl ?_;refine sa 4 uh kQ ?_;intro w72 tY;refine zN 6 ?_;have Lc:=tY.aP [7,6,5,4,3,2,1,0];rw [uS pR u7 (by rw [r9,if_pos hfit];decide)];exact ⟨none,0,Nat.le_refl 0,rfl,aB Lc⟩
     refine lH 10 rfl qo fP ?_;intro b75 w76 DY;refine cO ?_;refine aU 6 ?_;by_cases hfit:ro=1/\ep=e
     ·refine mW 6 rfl eQ (Ji (o8 ro ep fr tg rd A c l 3 qu e pe x 1 d31 g32 _ (St.rd 7 DY rfl) hb (St.lD (xs:=[iV 1]) 1 DY rfl rfl rfl) (St.lD (xs:=[.func (.func 135) #[] #[]]) 2 DY rfl rfl rfl)) hfit) ?_;rintro _ w78 ⟨rfl,aA1⟩;refine ⟨_,rfl,?_⟩;have Ci:=DY.on aA1;refine aL 4 ?_;refine aU 11 ?_;refine sn 11 rfl 0 Ci kQ ?_;intro w84 JW;refine aL 3 ?_;refine zN 12 ?_;have Ez:=JW.nil 65 6;refine zN 3 ?_;refine dx (news:=(l).flatMap Ev.cells) (xs':=(l).flatMap Ev.cells) 0 Ez (wn rfl) rfl rfl rfl rfl rfl rfl (St.rd 8 Ez rfl) Tryz.underlying55 oO rfl dQ (fE _) lQ oQ (rfl) ?_;intro A88 c89 w90 aJC aJD M0;refine zQ ?_;refine Hz 1 M0 kQ ?_;intro w94 Lu;refine zN 5 ?_;refine sa 5 Lu kQ ?_;intro w96 Au;refine zN 5 ?_;have D8:=Au.aP [8,7,6,5,4,3,2,1];rw [jY pR u7 uQ (by rw [r9,if_neg (λh=>h hfit)];rfl),r9,if_neg (λh=>h hfit)];rw [Nat.zero_add] at D8⊢;exact ⟨A88,c89,(dY (D8.own 0 rfl)).1,rfl,D8.bD 0 rfl⟩
     refine mW 6 rfl eQ (Ow (o8 ro ep fr tg rd A c l 3 qu e pe x 1 d31 g32 _ (St.rd 7 DY rfl) hb (St.lD (xs:=[iV 1]) 1 DY rfl rfl rfl) (St.lD (xs:=[.func (.func 135) #[] #[]]) 2 DY rfl rfl rfl)) hfit) ?_;rintro _ w99 ⟨rfl,awz⟩;refine ⟨_,rfl,?_⟩;have sI:=DY.on awz;refine aL 4 ?_;refine aU 11 ?_;refine sn 11 rfl 0 sI kQ ?_;intro auf Dx;refine aL 3 ?_;refine zN 11 ?_;refine vv jl ?_;refine sa 4 Dx kQ ?_;intro atZ Jh;refine zN 6 ?_;have qb:=Jh.aP [7,6,5,4,3,2,1,0];rw [uS pR u7 (by rw [r9,if_pos hfit];decide)];exact ⟨none,0,Nat.le_refl 0,rfl,aB qb⟩
    refine lH 10 rfl qo fP ?_;intro aJE R8 mG;refine cO ?_;refine aU 3 ?_;refine je (i:=3) rfl rfl (v:= .func (.func 148) #[] #[pV d31 0,pV g32 0]) (wn rfl) rfl rfl (jS 3 mG rfl rfl rfl rfl Tryz.underlying3 Tryz.underlying206 (Tryz.zeroValue205 _) dQ rfl) ?_;refine cO ?_;refine aU 6 ?_;by_cases hfit:ro=1/\ep=e
    ·refine mW 6 rfl eQ (Ji (o8 ro ep fr tg rd A c l 3 qu e pe x 1 d31 g32 _ (St.rd 7 mG rfl) hb (St.lD (xs:=[iV 1]) 1 mG rfl rfl rfl) (St.lD (xs:=[.func (.func 135) #[] #[]]) 2 mG rfl rfl rfl)) hfit) ?_;rintro _ ah6 ⟨rfl,awC⟩;refine ⟨_,rfl,?_⟩;have qc:=mG.on awC;refine aL 4 ?_;refine aU 11 ?_;refine sn 11 rfl 0 qc kQ ?_;intro ath AQ;refine aL 3 ?_;refine zN 12 ?_;have AO:=AQ.nil 65 6;refine zN 3 ?_;refine dx (news:=(l).flatMap Ev.cells) (xs':=(l).flatMap Ev.cells) 0 AO (wn rfl) rfl rfl rfl rfl rfl rfl (St.rd 8 AO rfl) Tryz.underlying55 oO rfl dQ (fE _) lQ oQ (rfl) ?_;intro an4 an5 an1 aGj aGk R9;refine zQ ?_;refine Hz 1 R9 kQ ?_;intro aof zo;refine zN 5 ?_;refine sa 5 zo kQ ?_;intro aA2 Sc;refine zN 5 ?_;have yj:=Sc.aP [8,7,6,5,4,3,2,1];rw [jY pR u7 uQ (by rw [r9,if_neg (λh=>h hfit)];rfl),r9,if_neg (λh=>h hfit)];rw [Nat.zero_add] at yj⊢;exact ⟨an4,an5,(dY (yj.own 0 rfl)).1,rfl,yj.bD 0 rfl⟩
    refine mW 6 rfl eQ (Ow (o8 ro ep fr tg rd A c l 3 qu e pe x 1 d31 g32 _ (St.rd 7 mG rfl) hb (St.lD (xs:=[iV 1]) 1 mG rfl rfl rfl) (St.lD (xs:=[.func (.func 135) #[] #[]]) 2 mG rfl rfl rfl)) hfit) ?_;rintro _ anU ⟨rfl,awD⟩;refine ⟨_,rfl,?_⟩;have zh:=mG.on awD;refine aL 4 ?_;refine aU 11 ?_;refine sn 11 rfl 0 zh kQ ?_;intro aug Ja;refine aL 3 ?_;refine zN 11 ?_;refine vv jl ?_;refine sa 4 Ja kQ ?_;intro ah0 Mf;refine zN 6 ?_;have R6:=Mf.aP [7,6,5,4,3,2,1,0];rw [uS pR u7 (by rw [r9,if_pos hfit];decide)];exact ⟨none,0,Nat.le_refl 0,rfl,aB R6⟩
   refine lH 10 rfl jE fP ?_;intro aAn aAo AP;refine cO ?_;refine aU 0 ?_;refine jI 0 rfl eQ (Tk _) ?_;rintro _ auh ⟨aJF,aog,aoh,rfl,aA3⟩;refine ⟨_,rfl,?_⟩;have vH:=AP.ext aA3 rfl;refine cO ?_;refine aU 3 ?_;refine je (i:=3) rfl rfl (v:= .func (.func 148) #[] #[pV aog 0,pV aoh 0]) (wn rfl) rfl rfl (jS 2 vH rfl rfl rfl rfl Tryz.underlying3 Tryz.underlying206 (Tryz.zeroValue205 _) dQ rfl) ?_;refine cO ?_;refine aU 6 ?_;by_cases hfit:ro=1/\ep=e
   ·refine mW 6 rfl eQ (Ji (o8 ro ep fr tg rd A c l 3 qu e pe x 1 aog aoh _ (St.rd 7 vH rfl) hb (St.lD (xs:=[iV 1]) 0 vH rfl rfl rfl) (St.lD (xs:=[.func (.func 135) #[] #[]]) 1 vH rfl rfl rfl)) hfit) ?_;rintro _ aJG ⟨rfl,awE⟩;refine ⟨_,rfl,?_⟩;have aob:=vH.on awE;refine aL 4 ?_;refine aU 11 ?_;refine sn 11 rfl 3 aob kQ ?_;intro aA4 abR;refine aL 3 ?_;refine zN 12 ?_;have zl:=abR.nil 65 6;refine zN 3 ?_;refine dx (news:=(l).flatMap Ev.cells) (xs':=(l).flatMap Ev.cells) 0 zl (wn rfl) rfl rfl rfl rfl rfl rfl (St.rd 8 zl rfl) Tryz.underlying55 oO rfl dQ (fE _) lQ oQ (rfl) ?_;intro aoi c167 ah5 aGl aGm GQ;refine zQ ?_;refine Hz 4 GQ kQ ?_;intro aoj WT;refine zN 5 ?_;refine sa 5 WT kQ ?_;intro aA5 WL;refine zN 5 ?_;have abS:=WL.aP [8,7,6,5,4,3,2,1];rw [jY pR u7 uQ (by rw [r9,if_neg (λh=>h hfit)];rfl),r9,if_neg (λh=>h hfit)];rw [Nat.zero_add] at abS⊢;exact ⟨aoi,c167,(dY (abS.own 0 rfl)).1,rfl,abS.bD 0 rfl⟩
   refine mW 6 rfl eQ (Ow (o8 ro ep fr tg rd A c l 3 qu e pe x 1 aog aoh _ (St.rd 7 vH rfl) hb (St.lD (xs:=[iV 1]) 0 vH rfl rfl rfl) (St.lD (xs:=[.func (.func 135) #[] #[]]) 1 vH rfl rfl rfl)) hfit) ?_;rintro _ aA6 ⟨rfl,awF⟩;refine ⟨_,rfl,?_⟩;have WQ:=vH.on awF;refine aL 4 ?_;refine aU 11 ?_;refine sn 11 rfl 3 WQ kQ ?_;intro aA7 aok;refine aL 3 ?_;refine zN 11 ?_;refine vv jl ?_;refine sa 4 aok kQ ?_;intro aJH aol;refine zN 6 ?_;have abT:=aol.aP [7,6,5,4,3,2,1,0];rw [uS pR u7 (by rw [r9,if_pos hfit];decide)];exact ⟨none,0,Nat.le_refl 0,rfl,aB abT⟩
  refine zN 6 ?_;refine vv jl ?_;refine zQ ?_;refine sa 0 iG kQ ?_;intro aJI aom;refine zN 6 ?_;have aon:=aom.aP [3,2,1,0];rw [Bh pR u7];exact ⟨none,0,Nat.le_refl 0,rfl,aB aon⟩
 refine zN 6 ?_;refine vv jl ?_;refine zQ ?_;refine sa 0 qI kQ ?_;intro aJJ aA8;refine zN 6 ?_;have Mk:=aA8.aP [3,2,1,0];rw [Bg pR];exact ⟨none,0,Nat.le_refl 0,rfl,aB Mk⟩
end Go.Proofs.YtlfgjcahpppbbaaGreatDoor
