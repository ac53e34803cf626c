/- Parts of proofs: lemmas on memory, on single functions and on the plain models; no condition of their own. -/
import Derived.Test.YtbffmhpkenoogaaGreatDoorG6893ca8dd176
import Derived.Test.YtbffmhpkenoogaaGreatDoorG750df486831d
import Derived.Test.YtbffmhpkenoogaaGreatDoorG7bc69ce0519f
set_option linter.unusedVariables false
set_option linter.unusedSimpArgs false
set_option linter.unnecessarySimpa false
set_option maxRecDepth 100000
set_option maxHeartbeats 8000000

namespace Go.Proofs.YtbffmhpkenoogaaGreatDoor
open Go.ChangeShapes Go.WideShapes Go.RowKit
def om (l:List UInt8):Int:=l.foldl (fun s c=>s*256+(c.toNat:Int)) 0
theorem Ww (l:List UInt8) (c:UInt8):om (l++[c])=om l*256+c.toNat:=by simp [om]
theorem aeZ: ∀ (l:List UInt8),l.length≤4→0≤om l∧om l≤4294967295
 | [],_=>by simp [om]
 | [a],_=>by have:=u8_in a;simp [om];omega
 | [a,b],_=>by have:=u8_in a;have:=u8_in b;simp [om];omega
 | [a,b,c],_=>by have:=u8_in a;have:=u8_in b;have:=u8_in c;simp [om];omega
 | [a,b,c,d],_=>by have:=u8_in a;have:=u8_in b;have:=u8_in c;have:=u8_in d;simp [om];omega
 | _::_::_::_::_::_,h=>by simp at h
def zX:dx×Nat:=(nW,0)
def bT (b:List UInt8):Nat:=match b with
 | x::y::_=>x.toNat*256+y.toNat
 | _=>0
def firstM (b:List UInt8):dx×Nat:=
 if b.length<2 then zX else if b.length<bT b+6 then zX else if om ((b.drop (2+bT b)).take 4)≠xI (b.take (2+bT b)) then zX
 else if (ru ((b.drop 2).take (bT b))).2≠0 then zX else ((ru ((b.drop 2).take (bT b))).1,bT b+6)
section
variable {b:List UInt8}
theorem xq (h:b.length<2):firstM b=zX:=if_pos h
theorem G7 (h: ¬ b.length<2) (h1:b.length<bT b+6):firstM b=zX:=by unfold firstM;rw [if_neg h,if_pos h1]
theorem SS (h: ¬ b.length<2) (h1: ¬ b.length<bT b+6) (h2:om ((b.drop (2+bT b)).take 4)≠xI (b.take (2+bT b))):firstM b=zX:=by unfold firstM;rw [if_neg h,if_neg h1,if_pos h2]
theorem SV (h: ¬ b.length<2) (h1: ¬ b.length<bT b+6) (h2:om ((b.drop (2+bT b)).take 4)=xI (b.take (2+bT b))) (h3:(ru ((b.drop 2).take (bT b))).2≠0):firstM b=zX:=by
 unfold firstM;rw [if_neg h,if_neg h1,if_neg (by simpa using h2),if_pos h3]
theorem J4 (h: ¬ b.length<2) (h1: ¬ b.length<bT b+6) (h2:om ((b.drop (2+bT b)).take 4)=xI (b.take (2+bT b))) (h3:(ru ((b.drop 2).take (bT b))).2=0):firstM b=((ru ((b.drop 2).take (bT b))).1,bT b+6):=by
 unfold firstM;rw [if_neg h,if_neg h1,if_neg (by simpa using h2),if_neg (by simpa using h3)]
theorem vL:(firstM b).2≤b.length:=by
 unfold firstM zX
 split
 ·exact Nat.zero_le _
 split
 ·exact Nat.zero_le _
 split
 ·exact Nat.zero_le _
 split
 ·exact Nat.zero_le _
 simp;omega
theorem akx {x y:UInt8} (hx:b[0]? =some x) (hy:b[1]? =some y):bT b=x.toNat*256+y.toNat:=by
 match b,hx,hy with
 | x'::y'::r,hx,hy=>
  simp at hx hy;subst hx;subst hy;rfl
 | [_],_,hy=>simp at hy
end
def oH:Nat→List UInt8→List dx×Nat
 | 0,_=>([],0)
 | f+1,b=>if (firstM b).2=0 then ([],0) else ((firstM b).1::(oH f (b.drop (firstM b).2)).1,(firstM b).2+(oH f (b.drop (firstM b).2)).2)
theorem Ej: ∀ (f g:Nat) (b:List UInt8),b.length<f→b.length<g→oH f b=oH g b
 | 0,_,b,h,_=>absurd h (by omega)
 | _,0,b,_,h=>absurd h (by omega)
 | f+1,g+1,b,hf,hg=>by
  unfold oH;by_cases h:(firstM b).2=0
  ·rw [if_pos h,if_pos h]
  rw [if_neg h,if_neg h,Ej f g _ (by rw [List.length_drop];have:= @vL b;omega) (by rw [List.length_drop];have:= @vL b;omega)]
def bK (b:List UInt8):List dx×Nat:=oH (b.length+1) b
theorem El {b:List UInt8} (h:(firstM b).2=0):bK b=([],0):=by unfold bK oH;rw [if_pos h]
theorem J5 {b:List UInt8} (h: ¬ (firstM b).2=0):bK b=((firstM b).1::(bK (b.drop (firstM b).2)).1,(firstM b).2+(bK (b.drop (firstM b).2)).2):=by
 unfold bK;rw [oH,if_neg h,Ej b.length ((b.drop (firstM b).2).length+1) _ (by rw [List.length_drop];have:= @vL b;omega) (by omega)]
theorem J6: ∀ (f:Nat) (b:List UInt8),(oH f b).2≤b.length∧(oH f b).1.length≤b.length
 | 0,b=>by simp [oH]
 | f+1,b=>by
  unfold oH
  split
  ·simp
  rename_i h
  have h1:=J6 f (b.drop (firstM b).2);rw [List.length_drop] at h1;have h2:= @vL b;simp;omega
def sK (l:List UInt8) (s:Int):List dx×Nat×Int:=if cu l s=true then ((bK l).1,(bK l).2,0) else ([],0,6)
def dx.cells (r:dx):List Value:=[.int .i64 r.kind,.int .i64 r.queue,.int .i64 r.epoch,.int .i64 r.peer,.int .i64 r.ev.kind,.int .i64 r.ev.producer,.int .i64 r.ev.id,.int .i64 r.ev.body,.int .i64 r.ev.aL,.int .i64 r.ev.hno]
def aaY (w:World) (r:List dx×Nat×Int) (e:Ending) (w':World):Prop:=
 ∃ A c,e= .returned (.tuple #[.slice A r.1.length c,.int .i64 (r.2.1:Int),.int .i64 r.2.2])∧St w.heap.size w w' [.own 205 10 (.slice A r.1.length c) r.1.length (r.1.flatMap dx.cells)]
def Im (x:UInt8):List Value:=[.int .u8 x.toNat]
theorem NT (l:List UInt8):byteCells l=l.flatMap Im:=by
 induction l with
 | nil=>rfl
 | cons a l ih=>rw [List.flatMap_cons,←ih];rfl
theorem amn {w:World} {B:Nat} {A:Option Addr} {n:Nat} {l:List UInt8} (h:Rd w B 1 A n (byteCells l)):Rd w B 1 A n (l.flatMap Im):=NT l▸h
theorem ahL {w:World} {B:Nat} {A:Option Addr} {n:Nat} {l:List UInt8} (h:Rd w B 1 A n (l.flatMap Im)):Rd w B 1 A n (byteCells l):=(NT l).symm▸h
theorem ZB {l:List UInt8}:(l.take 4).take 4=l.take 4:=by simp [List.take_take]
theorem Wx {l:List UInt8} {k:Nat} {x:UInt8} (h:l[k]? =some x):om (l.take k)*256+(x.toNat:Int)=om (l.take (k+1)):=by
 rw [List.take_add_one,h,←Ww];rfl
def Wy (w:World) (r:dx×Nat) (e:Ending) (w':World):Prop:=e= .returned (.tuple #[r.1.val,iV (r.2:Int)])∧Below w.heap.size w w'
theorem Py (A:Option Addr) (c:Nat) (b:List UInt8) (w:World) (h:Rd w w.heap.size 1 A b.length (byteCells b)) (hn:b.length≤c) (hcm:c≤9223372036854775807) (hb:b.length≤100000):
    Calls Tryz.prog 110 #[.slice A b.length c] w (Wy w (firstM b)):=by
 have S:=(St.start w).bH (amn h);refine fE 69 Tryz.func110 ?_;refine cw [0] ?_;iterate 2 refine zQ ?_
 refine eU S uW ?_;intro b1 w2 S3;iterate 8 refine zQ ?_
 by_cases h4:((b.length:Nat):Int)<2
 ·iterate 7 refine zQ ?_
  refine sa 0 S3 jG ?_;intro w5 S6;iterate 6 refine zQ ?_
  exact ⟨by rw [xq (by omega)];rfl,S6.low⟩
 iterate 7 refine zQ ?_
 refine eH S3 mixed (by kernel_rfl) ?_;refine zQ ?_;obtain ⟨b8,o9,rfl⟩:=Rd.addr (St.rd 1 S3 rfl) (by omega);obtain ⟨x10,Rj⟩:=FK 0 (St.rd 1 S3 rfl) (by omega);refine uv (fun _ _=>gM 0) ?_;refine uv (v:= .int .u8 ((x10).toNat:Int)) (fun _ Na=>(aj rfl rfl (aA Tryz.underlying5 rfl (Rd.Ug (i:=0) (St.rd 1 Na rfl) (bS (enc:=Im) (sz:=1) (fun _=>rfl) Rj rfl))))) ?_;refine uv (v:=iV ((x10).toNat:Int)) (fun _ _=>(Di rfl rfl (KV (a:=x10) rfl (by kernel_rfl)))) ?_;have aCE:=u8_in x10;refine uv (v:=iV (((x10).toNat:Int)*256)) (fun _ _=>(ah rfl rfl rfl (Zb rfl (by omega) (by omega)))) ?_;refine uv (v:=iV (2+(((x10).toNat:Int)*256))) (fun _ _=>jv) ?_;refine zQ ?_;obtain ⟨x19,amo⟩:=FK 1 (St.rd 1 S3 rfl) (by omega);refine uv (fun _ _=>gM 1) ?_;refine uv (v:= .int .u8 ((x19).toNat:Int)) (fun _ Dr=>(aj rfl rfl (aA Tryz.underlying5 rfl (Rd.Ug (i:=0) (St.rd 1 Dr rfl) (bS (enc:=Im) (sz:=1) (fun _=>rfl) amo rfl))))) ?_;refine uv (v:=iV ((x19).toNat:Int)) (fun _ _=>(Di rfl rfl (KV (a:=x19) rfl (by kernel_rfl)))) ?_;have aCF:=u8_in x19;have aCG:=akx Rj amo;have aCH:bT b≤65535:=by omega
 refine uv (v:=iV ((2+bT b:Nat):Int)) (fun _ _=>(ah rfl rfl rfl (by rw [show ((2+bT b:Nat):Int)=2+(((x10).toNat:Int)*256)+((x19).toNat:Int) by omega];exact Yw (by omega) (by omega)))) ?_;refine zQ ?_;refine fC fun VN sj=>?_
 iterate 7 refine zQ ?_
 refine vv (v:=iV (((2+bT b)+4:Nat):Int)) jv ?_;by_cases h30:((b.length:Nat):Int)< (((2+bT b)+4:Nat):Int)
 ·iterate 7 refine zQ ?_
  refine sa 0 sj jG ?_;intro Zx pE;iterate 6 refine zQ ?_
  exact ⟨by rw [G7 (by omega) (by omega)];rfl,pE.low⟩
 iterate 17 refine zQ ?_
 refine vv (v:=iV (((2+bT b)+4:Nat):Int)) jv ?_;refine zQ ?_;refine vv (v:=iV (((2+bT b)+4:Nat):Int)) jv ?_;obtain ⟨A33,auo,ahM⟩:=JF (b:=b) (c:=c) (lo:=(some (iV ((2+bT b:Nat):Int)))) (hi:=(some (iV (((2+bT b)+4:Nat):Int)))) (mx:=(some (iV (((2+bT b)+4:Nat):Int)))) (l:=2+bT b) (k:=2+bT b+4) (q:=2+bT b+4) (m:=4) (c':=4) Tryz.underlying123 QT (Za (2+bT b) (2+bT b+4) (2+bT b+4) rfl rfl rfl (by omega) (by omega) (by omega)) (ahL (show Rd _ _ _ _ _ _ from sj.all 1 _ rfl)) (by omega) (by omega) (by omega) (by omega) (by omega)
 replace ahM:Rd _ _ _ _ _ (((b.drop (2+bT b)).take 4).flatMap Im):=amn ahM
 have nL:=sj.bH ahM;refine vv (v:= .slice A33 4 4) (jq rfl rfl (iI rfl) (iI rfl) (iI rfl) (auo _)) ?_;iterate 5 refine zQ ?_
 refine fH (X:=Nat) (fun xv=>[(0,.slice (aD b8 o9) b.length c),(2,pV b1 0),(3,iV 0),(4,iV ((2+bT b:Nat):Int)),(37,.slice A33 4 4),(38,iV 4),(5,iV (om (((b.drop (2+bT b)).take 4).take xv))),(39,iV ((xv:Nat):Int))]) (fun xv wr=>(xv≤4)∧St w.heap.size w wr [.rd 1 A33 4 (((b.drop (2+bT b)).take 4).flatMap Im),.blk b1 #[iV 0,iV 0,iV 0,iV 0,iV 0,iV 0,iV 0,iV 0,iV 0,iV 0] 205,.rd 1 (aD b8 o9) b.length ((b).flatMap Im)]) (fun xv=>4-xv) (0) ?_ ?_ ?_
 ·exact ⟨Nat.zero_le _,nL⟩
 ·exact ⟨rfl,rfl,rfl,rfl,rfl,rfl,rfl,rfl,trivial⟩
 rintro k NQ ⟨Nb,oG⟩
 try dsimp only at Nb oG
 refine bq (l':=[(0,.slice (aD b8 o9) b.length c),(2,pV b1 0),(3,iV 0),(4,iV ((2+bT b:Nat):Int)),(37,.slice A33 4 4),(38,iV 4),(5,iV (om (((b.drop (2+bT b)).take 4).take k))),(39,iV ((k:Nat):Int))]) ⟨rfl,rfl,rfl,rfl,rfl,rfl,rfl,rfl,trivial⟩ (aW (aO ?_));by_cases h40:((k:Nat):Int)<4
 ·iterate 11 refine zQ ?_
  obtain ⟨b41,o42,rfl⟩:=Rd.addr (St.rd 0 oG rfl) (by omega);obtain ⟨x43,amr⟩:=FK k (St.rd 0 oG rfl) (by omega);refine vv (gM k) ?_;refine vv (aj rfl rfl (aA Tryz.underlying5 rfl (Rd.Ug (i:=0) (St.rd 0 oG rfl) (bS (enc:=Im) (sz:=1) (fun _=>rfl) amr rfl)))) ?_;iterate 5 refine zQ ?_
  have aCI:=aeZ (((b.drop (2+bT b)).take 4).take k) (by simp;omega);refine vv (v:=iV (om (((b.drop (2+bT b)).take 4).take k)*256)) (ah rfl rfl rfl (Zb rfl (by omega) (by omega))) ?_;refine zQ ?_;refine vv (v:=iV ((x43).toNat:Int)) (Di rfl rfl (KV (a:=x43) rfl (by kernel_rfl))) ?_;have aCJ:=u8_in x43;refine vv (v:=iV (om (((b.drop (2+bT b)).take 4).take k)*256+((x43).toNat:Int))) (ah rfl rfl rfl (aoI rfl (by omega) (by omega) (by omega) (by omega))) ?_;iterate 5 refine zQ ?_
  refine vv (v:=iV ((k+1:Nat):Int)) jv ?_;iterate 2 refine zQ ?_
  refine bY (k+1) ?_ ⟨rfl,rfl,rfl,rfl,rfl,rfl,(ai4 (Wx amr)),rfl,trivial⟩ (by first | omega | (dsimp only;omega));exact ⟨(by omega),oG⟩
 iterate 16 refine zQ ?_
 obtain ⟨IU,aup,ahN⟩:=JF (b:=b) (c:=c) (lo:=none) (hi:=(some (iV ((2+bT b:Nat):Int)))) (mx:=none) (l:=0) (k:=2+bT b) (q:=c) (m:=2+bT b) (c':=c) Tryz.underlying123 QT (asl (2+bT b) rfl (by omega)) (ahL (show Rd _ _ _ _ _ _ from oG.all 2 _ rfl)) (by omega) (by omega) (by omega) (by omega) (by omega)
 replace ahN:Rd _ _ _ _ _ (byteCells (b.take (2+bT b))):=ahN
 have rO:=oG.bH ahN;refine vv (v:= .slice IU (2+bT b) c) (jq rfl rfl mD (iI rfl) mD (aup _)) ?_;refine dO ao5 (Jm _ _ _ (b.take (2+bT b)) _ (St.rd 0 rO rfl) (by omega)) ?_;rintro _ Zq ⟨rfl,q53,rfl⟩;refine ⟨_,rfl,?_⟩;have oF:=rO.drewN q53;obtain rfl:k=4:=by omega
 by_cases h54:om ((b.drop (2+bT b)).take 4)=xI (b.take (2+bT b))
 ·refine vv (v:= .bool false) (ah rfl rfl rfl (EK (by rw [ZB];exact h54))) ?_;iterate 9 refine zQ ?_
  obtain ⟨Qy,auq,ahO⟩:=JF (b:=b) (c:=c) (lo:=(some (iV 2))) (hi:=(some (iV ((2+bT b:Nat):Int)))) (mx:=none) (l:=2) (k:=2+bT b) (q:=c) (m:=bT b) (c':=c-2) Tryz.underlying123 QT (QS 2 (2+bT b) rfl rfl (by omega) (by omega)) (ahL (show Rd _ _ _ _ _ _ from oF.all 3 _ rfl)) (by omega) (by omega) (by omega) (by omega) (by omega)
  replace ahO:Rd _ _ _ _ _ (byteCells ((b.drop 2).take (bT b))):=ahO
  have yU:=oF.bH ahO;refine vv (v:= .slice Qy (bT b) (c-2)) (jq rfl rfl (iI rfl) (iI rfl) mD (auq _)) ?_;refine cab ao6 yU (LD Qy (bT b) (c-2) ((b.drop 2).take (bT b)) _ (St.rd 0 yU rfl) (by omega) (by unfold maxLen;omega)) ?_;intro w59 Qt;iterate 3 refine zQ ?_
  refine eU Qt uW ?_;intro b62 w63 S64;refine sa 0 S64 jG ?_;intro w65 Bj;iterate 7 refine zQ ?_
  by_cases zK:(ru ((b.drop 2).take (bT b))).2=0
  ·iterate 10 refine zQ ?_
   refine vv (v:=iV (((2+bT b)+4:Nat):Int)) jv ?_;refine sa 4 Bj jG ?_;intro w68 xg;iterate 5 refine zQ ?_
   exact ⟨by rw [J4 (by omega) (by omega) h54 zK];exact congrArg Ending.returned (by show Value.tuple #[_,iV _]=Value.tuple #[_,iV _];rw [show ((2+bT b+4:Nat):Int)=((bT b+6:Nat):Int) by omega];rfl),xg.low⟩
  iterate 7 refine zQ ?_
  refine sa 4 Bj jG ?_;intro UA qh;iterate 6 refine zQ ?_
  exact ⟨by rw [SV (by omega) (by omega) h54 zK];rfl,qh.low⟩
 refine vv (v:= .bool true) (ah rfl rfl rfl (KR (by rw [ZB];exact h54))) ?_;iterate 6 refine zQ ?_
 refine sa 2 oF jG ?_;intro VZ qL;iterate 6 refine zQ ?_
 exact ⟨by rw [SS (by omega) (by omega) h54];rfl,qL.low⟩
theorem Wz {w:World} {base:Nat} {e:TypeId} {size:Nat} {A:Option Addr} {n c:Nat} {xs:List Value} (h:w.ownsRow base e size (.slice A n c) n xs):n≤c∧c≤maxLen:=by
 obtain ⟨A',c',e1,h1,h2⟩:=kY h
 cases e1;exact ⟨h1,h2⟩
theorem Mh {l:List UInt8}:bK l=([]++(bK (l.drop 0)).1,0+(bK (l.drop 0)).2):=by simp
theorem Pz {l:List UInt8} {acc:List dx} {p:Nat} (h:bK l=(acc++(bK (l.drop p)).1,p+(bK (l.drop p)).2)) (h1: ¬ (firstM (l.drop p)).2=0):
  bK l=(acc++[(firstM (l.drop p)).1]++(bK (l.drop (p+(firstM (l.drop p)).2))).1,p+(firstM (l.drop p)).2+(bK (l.drop (p+(firstM (l.drop p)).2))).2):=by
 rw [h,J5 h1,List.drop_drop,List.append_assoc,Nat.add_assoc];rfl
theorem WA {l:List UInt8} {s:Int} {acc:List dx} {p:Nat} (hm:cu l s=true) (h:bK l=(acc++(bK (l.drop p)).1,p+(bK (l.drop p)).2)) (h1:(firstM (l.drop p)).2=0):sK l s=(acc,p,0):=by
 unfold sK;rw [if_pos hm,h,El h1];simp
theorem AB (A:Option Addr) (c:Nat) (l:List UInt8) (s:Int) (w:World) (h:Rd w w.heap.size 1 A l.length (byteCells l)):
    Calls Tryz.prog 77 #[.agg #[.slice A l.length c,iV s]] w (aaY w (sK l s)):=by
 have S:=(St.start w).bH h;refine fE 37 Tryz.func77 ?_;refine cw [0] ?_;iterate 2 refine zQ ?_
 refine gD S ?_;intro b1 w2 S3;iterate 8 refine zQ ?_
 rcases xR l s with ⟨ho,hm⟩ | ⟨ho,hm⟩
 ·have HO:=fun w h=>kG A l.length c l s w h
  rw [ho] at HO;refine dO YB (HO _ (St.rd 1 S3 rfl)) ?_;rintro _ w8 ⟨A4,c5,rfl,hb6,hO7⟩;refine ⟨_,rfl,?_⟩;have S9:=S3.rU hb6 hO7;clear HO hb6 hO7 S3;change St _ _ _ [.own 5 1 (.slice A4 l.length c5) l.length (byteCells l),.blk b1 #[.slice A l.length c,iV s] 125,.rd 1 A l.length (byteCells l)] at S9;have hcap:=Wz (S9.own 0 rfl);unfold maxLen at hcap;have hlen:l.length≤100000:=(nD hm).1;iterate 3 refine zQ ?_
  refine eU S9 wZ ?_;intro b10 Ee lq;refine sa 0 lq dX ?_;intro CG jH;iterate 15 refine zQ ?_
  have gH:=jH.nil 205 10;iterate 9 refine zQ ?_
  have jR:=gH.aR [4];refine fH (X:=(List dx)×Nat×Nat×(Option Addr)×Nat) (fun xv=>[(2,.slice none 0 0),(3,iV 0),(4,iV 0),(5,pV b10 0),(7,.slice xv.2.2.2.1 xv.2.2.1 xv.2.2.2.2),(8,iV ((xv.2.1:Nat):Int))]) (fun xv wr=>(bK l=(xv.1++(bK (l.drop xv.2.1)).1,xv.2.1+(bK (l.drop xv.2.1)).2))∧(xv.2.1≤l.length)∧(xv.2.2.1≤xv.2.1)∧(xv.2.2.1=xv.1.length)∧St w.heap.size w wr [.own 205 10 (.slice xv.2.2.2.1 xv.2.2.1 xv.2.2.2.2) xv.2.2.1 ((xv.1).flatMap dx.cells),.blk b10 #[.slice A4 l.length c5,iV s] 125,.own 5 1 (.slice A4 l.length c5) l.length (byteCells l),.blk b1 #[.slice A l.length c,iV s] 125]) (fun xv=>l.length-xv.2.1) ([],0,0,none,0) ?_ ?_ ?_
  ·exact ⟨Mh,Nat.zero_le _,Nat.le_refl _,rfl,jR⟩
  ·exact ⟨rfl,rfl,rfl,rfl,rfl,rfl,trivial⟩
  rintro ⟨acc,p,m,A9,c9⟩ JR ⟨ahP,aur,hi21,hi22,iD⟩
  try dsimp only at ahP aur hi21 hi22 iD
  refine bq (l':=[(2,.slice none 0 0),(3,iV 0),(4,iV 0),(5,pV b10 0),(7,.slice A9 m c9),(8,iV ((p:Nat):Int))]) ⟨rfl,rfl,rfl,rfl,rfl,rfl,trivial⟩ (BH (aW (aO (vv (yfa 0 Ui) ?_))));iterate 2 refine zQ ?_
  obtain ⟨A23,aus,amt⟩:=JF (b:=l) (c:=c5) (lo:=(some (iV ((p:Nat):Int)))) (hi:=none) (mx:=none) (l:=p) (k:=l.length) (q:=c5) (m:=(l.drop p).length) (c':=c5-p) Tryz.underlying123 QT (ab0 p rfl (by omega)) (St.ord 2 iD rfl) (by omega) (by omega) (by omega) List.length_drop.symm rfl;rw [List.take_length] at amt;refine vv (v:= .slice A23 ((l.drop p).length) (c5-p)) (jq rfl rfl (iI rfl) mD mD (aus _)) ?_;refine dO aoY (Py A23 (c5-p) (l.drop p) _ amt (by rw [List.length_drop];omega) (by omega) (by rw [List.length_drop];omega)) ?_;rintro _ IQ ⟨rfl,acz⟩;refine ⟨_,rfl,?_⟩;have qJ:=iD.on acz;clear acz iD;have hfl:= @vL (l.drop p);rw [List.length_drop] at hfl;iterate 3 refine zQ ?_
  refine eU qJ uW ?_;intro b29 V4 mF;refine sa 0 mF jG ?_;intro w32 qY;iterate 7 refine zQ ?_
  by_cases h34:(((firstM (l.drop p)).2:Nat):Int)=0
  ·iterate 19 refine zQ ?_
   have kC:=qY.aR [4,3,2,0];have hz:sK l s=(acc,p,0):=WA hm ahP (by omega);rw [hz];subst hi22;exact ⟨_,_,rfl,kC⟩
  iterate 10 refine zQ ?_
  refine Zo qY ?_;intro tH NQ oG;refine dB (news:=[iV ((firstM (l.drop p)).1.kind),iV ((firstM (l.drop p)).1.queue),iV ((firstM (l.drop p)).1.epoch),iV ((firstM (l.drop p)).1.peer),iV ((firstM (l.drop p)).1.ev.kind),iV ((firstM (l.drop p)).1.ev.producer),iV ((firstM (l.drop p)).1.ev.id),iV ((firstM (l.drop p)).1.ev.body),iV ((firstM (l.drop p)).1.ev.aL),iV ((firstM (l.drop p)).1.ev.hno)]) (xs':=(acc++[(firstM (l.drop p)).1]).flatMap dx.cells) 2 oG (wn rfl) rfl rfl rfl rfl rfl rfl (St.iG (xs:=[iV ((firstM (l.drop p)).1.kind),iV ((firstM (l.drop p)).1.queue),iV ((firstM (l.drop p)).1.epoch),iV ((firstM (l.drop p)).1.peer),iV ((firstM (l.drop p)).1.ev.kind),iV ((firstM (l.drop p)).1.ev.producer),iV ((firstM (l.drop p)).1.ev.id),iV ((firstM (l.drop p)).1.ev.body),iV ((firstM (l.drop p)).1.ev.aL),iV ((firstM (l.drop p)).1.ev.hno)]) 0 oG rfl rfl rfl) Tryz.underlying176 KW rfl (by decide) (bZ rfl) (by simp only [maxLen];omega) (by omega) (jZ (enc:=dx.cells) rfl rfl) ?_;intro Em c40 Zt aCK aCL tC;iterate 6 refine zQ ?_
  refine vv (v:=iV ((p+((firstM (l.drop p)).2):Nat):Int)) jv ?_;iterate 3 refine zQ ?_
  have mW:=tC.aR [1,0];refine bY (acc++[(firstM (l.drop p)).1],p+(firstM (l.drop p)).2,m+1,Em,c40) ?_ ⟨rfl,rfl,rfl,rfl,rfl,rfl,trivial⟩ (by first | omega | (dsimp only;omega));exact ⟨(Pz ahP (by omega)),(by dsimp only;omega),(by dsimp only;omega),(by dsimp only;simp [hi22]),mW⟩
 have HO:=fun w h=>kG A l.length c l s w h
 rw [ho] at HO;refine dO YB (HO _ (St.rd 1 S3 rfl)) ?_;rintro _ Qw ⟨A46,c47,rfl,hb48,amu⟩;refine ⟨_,rfl,?_⟩;have sw:=S3.rU hb48 amu;clear HO hb48 amu S3;iterate 3 refine zQ ?_
 refine eU sw wZ ?_;intro ZC Wu jw;refine sa 0 jw dX ?_;intro Zv yT;iterate 21 refine zQ ?_
 have sF:=yT.aR [3,2,1,0];rw [show sK l s=([],0,6) from if_neg (by rw [hm];simp)];exact ⟨none,0,rfl,sF.nil 205 10⟩
theorem ae0 {l:List UInt8} {s:Int} (h:cu l s=true):Ey l s=(l,s,true):=by
 rcases xR l s with ⟨h1,_⟩ | ⟨_,h1⟩
 ·exact h1
 rw [h] at h1;cases h1
def jf (l:List UInt8) (s:Int):List UInt8×Int×Int:=if cu l s=true then (l.take (bK l).2,min s (bK l).2,0) else ([],0,6)
def ae1 (w:World) (r:List UInt8×Int×Int) (e:Ending) (w':World):Prop:=
 ∃ A c,e= .returned (.tuple #[.agg #[.slice A r.1.length c,iV r.2.1],iV r.2.2])∧St w.heap.size w w' [.bG 1 A r.1.length (byteCells r.1)]
theorem Mi (A:Option Addr) (c:Nat) (l:List UInt8) (s:Int) (w:World) (h:Rd w w.heap.size 1 A l.length (byteCells l)):
    Calls Tryz.prog 76 #[.agg #[.slice A l.length c,iV s]] w (ae1 w (jf l s)):=by
 have S:=(St.start w).bH h;refine fE 34 Tryz.func76 ?_;refine cw [0] ?_;iterate 2 refine zQ ?_
 refine gD S ?_;intro b1 w2 S3;refine eU S3 wZ ?_;intro b4 w5 S6;iterate 6 refine zQ ?_
 have hle:=J6 (l.length+1) l;rw [←show bK l=oH (l.length+1) l from rfl] at hle
 cases hm:cu l s
 ·have HR:=fun w h=>AB A c l s w h
  rw [show sK l s=([],0,6) from if_neg (by rw [hm];simp)] at HR;refine dO ahh (HR _ (St.rd 2 S6 rfl)) ?_;rintro _ w9 ⟨A7,c8,rfl,T11⟩;refine ⟨_,rfl,?_⟩;have jE:=S6.ext T11 rfl;change St _ _ _ [.own 205 10 (.slice A7 (([]:List dx).length) c8) (([]:List dx).length) ((([]:List dx)).flatMap dx.cells),_,_,_] at jE;iterate 21 refine zQ ?_
  refine sa 1 jE dX ?_;intro Qr qK;iterate 6 refine zQ ?_
  have jH:=qK.aR [3,2,1,0];rw [show jf l s=([],0,6) from if_neg (by rw [hm];simp)];exact ⟨none,0,rfl,aJ jH⟩
 have HR:=fun w h=>AB A c l s w h
 rw [show sK l s=((bK l).1,(bK l).2,0) from if_pos hm] at HR;have hlen:l.length≤100000:=(nD hm).1;refine dO ahh (HR _ (St.rd 2 S6 rfl)) ?_;rintro _ JR ⟨A15,c16,rfl,T19⟩;refine ⟨_,rfl,?_⟩;have iD:=S6.ext T19 rfl;change St _ _ _ [.own 205 10 (.slice A15 ((bK l).1.length) c16) ((bK l).1.length) (((bK l).1).flatMap dx.cells),_,_,_] at iD;refine zQ ?_;refine zQ ?_;refine zQ ?_;refine zQ ?_;refine zQ ?_;refine zQ ?_;refine zQ ?_;refine zQ ?_;refine ajY (vv (v:=iV 0) ym ?_);refine vv apk ?_;refine zQ ?_;iterate 6 refine zQ ?_
 refine zQ ?_;have HO:=fun w h=>kG A l.length c l s w h
 rw [ae0 hm] at HO;refine dO YB (HO _ (St.rd 3 iD rfl)) ?_;rintro _ JU ⟨A20,c21,rfl,WC,amw⟩;refine ⟨_,rfl,?_⟩;have iX:=iD.rU WC amw;clear HO WC amw iD;change St _ _ _ [.own 5 1 (.slice A20 l.length c21) l.length (byteCells l),.own 205 10 (.slice A15 ((bK l).1.length) c16) ((bK l).1.length) (((bK l).1).flatMap dx.cells),.blk b4 #[.slice none 0 0,iV 0] 125,.blk b1 #[.slice A l.length c,iV s] 125,.rd 1 A l.length (byteCells l)] at iX;have hcap:=cO (iX.own 0 rfl);unfold maxLen at hcap;iterate 3 refine zQ ?_
 refine eU iX wZ ?_;intro Wt JV qM;refine sa 0 qM dX ?_;intro V7 tF;iterate 4 refine zQ ?_
 have mF:=tF.drew;refine fG 12 10 mF [] ?_;iterate 4 refine iP ?_
 obtain ⟨A36,aut,auu,auv⟩:=adM (b:=l) (A:=A20) (c:=c21) (lo:=none) (hi:=some (iV (((bK l).2:Nat):Int))) (mx:=some (iV (((bK l).2:Nat):Int))) (l:=0) (k:=(bK l).2) (q:=(bK l).2) (m:=(bK l).2) (c':=(bK l).2) Tryz.underlying123 QT (af3 ((bK l).2) ((bK l).2) rfl rfl (Nat.le_refl _) (by omega)) (by omega) (by omega) (by omega) rfl rfl;refine gk (v:= .slice A36 ((bK l).2) ((bK l).2)) 4 rfl mF (fun _ _=>(jq rfl rfl mD (iI rfl) (iI rfl) (aut _))) ?_;iterate 3 refine iP ?_
 refine Bc (v:=iV (min s ((((bK l).2:Nat):Int)))) (i:=8) (m:=3) rfl (by kernel_rfl) (by kernel_rfl) (by kernel_rfl) rfl (by kernel_rfl) rfl mF rfl (wn rfl) rfl rfl (fun _ _=>(rW (vs:=[iV s,iV (((bK l).2:Nat):Int)]) rfl ⟨rfl,rfl,trivial⟩ fun _=>af4)) ?_;refine Bc (v:= .agg #[.slice A36 ((bK l).2) ((bK l).2),iV (min s ((((bK l).2:Nat):Int)))]) (i:=9) (m:=2) rfl (by kernel_rfl) (by kernel_rfl) (by kernel_rfl) rfl (by kernel_rfl) rfl mF rfl (wn rfl) rfl rfl (fun _ _=>(Ba (vs:=[(0,.slice A36 ((bK l).2) ((bK l).2)),(1,iV (min s ((((bK l).2:Nat):Int))))]) rfl ⟨rfl,rfl,rfl,rfl,trivial⟩ (by kernel_rfl))) ?_;refine eF (by kernel_rfl) rfl rfl rfl ?_;refine sa 3 mF dX ?_;intro UJ uy;iterate 2 refine zQ ?_
 refine je ?_;iterate 3 refine zQ ?_
 have qX:=uy.seal 1 rfl (auu _ _ (St.ord 1 uy rfl)) (fun a h=>auv a h);have sD:=qX.aR [5,4,3,2,0];have hlt:(l.take (bK l).2).length=(bK l).2:=by rw [List.length_take];omega
 rw [show jf l s=(l.take (bK l).2,min s (bK l).2,0) from if_pos hm];exact ⟨A36,(bK l).2,by rw [hlt];rfl,by rw [hlt];exact sD⟩
theorem BU {a:UInt8} {n:Int} (h:n=a.toNat):UInt8.ofNat n.toNat=a:=by
 subst h;simp
theorem WE {a b c d:UInt8} {n:Int} (h:n=16777216*(a.toNat:Int)+65536*(b.toNat:Int)+256*(c.toNat:Int)+(d.toNat:Int)):xB n=[a,b,c,d]:=by
 have:=u8_in a;have:=u8_in b;have:=u8_in c;have:=u8_in d;unfold xB;rw [BU (a:=a) (by omega),BU (a:=b) (by omega),BU (a:=c) (by omega),BU (a:=d) (by omega)]
theorem J7 {a b c d:UInt8}:om [a,b,c,d]=16777216*(a.toNat:Int)+65536*(b.toNat:Int)+256*(c.toNat:Int)+(d.toNat:Int):=by
 simp [om];omega
theorem aaZ {q:List UInt8} {s:Int} (hq:q.length=4) (h0:0≤s) (h1:s≤4294967295):om q=s↔xB s=q:=by
 match q,hq with
 | [a,b,c,d],_=>
  constructor
  ·intro h;rw [J7] at h;exact WE h.symm
  intro h;have ha:=u8_in a;have hb:=u8_in b;have hc:=u8_in c;have hd:=u8_in d;unfold xB at h;simp only [List.cons.injEq,and_true] at h;obtain ⟨e1,e2,e3,e4⟩:=h;subst e1;subst e2;subst e3;subst e4;rw [J7];simp only [UInt8.toNat_ofNat'];omega
section
variable {b:List UInt8}
theorem SX (h: ¬ b.length<2) (h1: ¬ b.length<bT b+6):headed ((b.drop 2).take (bT b))=b.take (2+bT b):=by
 match b,h,h1 with
 | x::y::r,_,h1=>
  have e:bT (x::y::r)=x.toNat*256+y.toNat:=rfl;have hx:=x.toNat_lt;have hy:=y.toNat_lt;have hl:((List.drop 2 (x::y::r)).take (bT (x::y::r))).length=bT (x::y::r):=by
   rw [List.length_take,List.length_drop];omega
  unfold headed;rw [hl,show UInt8.ofNat (bT (x::y::r) / 256)=x by rw [e,show (x.toNat*256+y.toNat) / 256=x.toNat by omega];simp,
   show UInt8.ofNat (bT (x::y::r) % 256)=y by rw [e,show (x.toNat*256+y.toNat) % 256=y.toNat by omega];simp]
  rw [Nat.add_comm 2];rfl
 | [],h,_=>simp at h
 | [_],h,_=>simp at h
theorem WG (h: ¬ b.length<2) (h1: ¬ b.length<bT b+6):om ((b.drop (2+bT b)).take 4)=xI (b.take (2+bT b))↔ji ((b.drop 2).take (bT b))=b.take (bT b+6):=by
 unfold ji;rw [SX h h1,show bT b+6=(2+bT b)+4 by omega,List.take_add (i:=2+bT b) (j:=4),List.append_cancel_left_eq];obtain ⟨s0,s1⟩:=GU (b.take (2+bT b));exact aaZ (by rw [List.length_take,List.length_drop];omega) s0 (by omega)
theorem Mj (h: ¬ b.length<2) (h1: ¬ b.length<bT b+6) (h3:(ru ((b.drop 2).take (bT b))).2=0) (hf:ji ((b.drop 2).take (bT b))=b.take (bT b+6)):firstM b=((ru ((b.drop 2).take (bT b))).1,bT b+6):=
 J4 h h1 ((WG h h1).2 hf) h3
end
def FU (n:Int):Prop:=0≤n∧n≤2147483647
theorem ae2 {n:Int} (h:FU n):(oQ n).1=xB n:=by unfold oQ;unfold FU at h;rw [if_pos h]
theorem aa0 {n:Int} (h:FU n) (t:List UInt8):ng (xB n++t)=(n,0):=by
 obtain ⟨h0,h1⟩:=h;unfold xB ng;simp only [List.cons_append,List.nil_append,UInt8.toNat_ofNat'];rw [if_neg (by omega)];simp only [Prod.mk.injEq,and_true];omega
theorem Dx {n:Int} {l:List Int} (h:FU n):jd (n::l)=xB n++jd l:=by
 show (n::l).flatMap _=_
 rw [List.flatMap_cons,ae2 h];rfl
theorem UM: ∀ {l:List Int},(∀ n∈l,FU n)→(jd l).length=4*l.length
 | [],_=>rfl
 | n::l,h=>by
  rw [Dx (h n (by simp)),List.length_append,UM (fun m hm=>h m (by simp [hm])),show (xB n).length=4 from rfl,List.length_cons];omega
theorem NU: ∀ {l:List Int} {j:Nat},(∀ n∈l,FU n)→(jd l).drop (4*j)=jd (l.drop j)
 | l,0,_=>rfl
 | [],j+1,_=>by simp [jd]
 | n::l,j+1,h=>by
  rw [Dx (h n (by simp)),List.drop_succ_cons,←NU (j:=j) (fun m hm=>h m (by simp [hm])),show 4*(j+1)=(xB n).length+4*j by show _=4+_;omega,←List.drop_drop,List.drop_left]
theorem Qz {l:List Int} {j:Nat} {n:Int} (h: ∀ n∈l,FU n) (hj:l[j]? =some n):tk (jd l) j=(n,0):=by
 unfold tk;obtain ⟨hl,hn⟩:=List.getElem?_eq_some_iff.1 hj;rw [NU h,List.drop_eq_getElem_cons hl,hn,Dx (h n (by rw [←hn];exact List.getElem_mem hl))];exact aa0 (h n (by rw [←hn];exact List.getElem_mem hl)) _
theorem akC {e:Ev} (h:bE e=0):FU e.kind∧FU e.producer∧FU e.id∧FU e.body∧FU e.aL∧FU e.hno:=by
 unfold bE at h;unfold FU
 repeat' split at h
 all_goals first
  | exact absurd h (by decide)
  | (clear h;simp only [jh,Bool.and_eq_true,decide_eq_true_eq,not_and,Classical.not_not] at*;omega)
theorem ae3 {r:dx} (h:aP r=0): ∀ n∈fu r,FU n:=by
 unfold aP at h
 split at h
 ·cases h
 split at h
 ·cases h
 rename_i h1 h2
 simp only [jh,Bool.and_eq_true,decide_eq_true_eq,Bool.not_eq_false] at h1 h2;intro n hn;unfold fu at hn;by_cases he:jS r.kind=true
 ·rw [if_pos he] at h hn;obtain ⟨g1,g2,g3,g4,g5,g6⟩:=akC h;simp only [List.cons_append,List.nil_append,List.mem_cons,List.not_mem_nil,or_false] at hn
  rcases hn with rfl | rfl | rfl | rfl | rfl | rfl | rfl | rfl | rfl | rfl
  any_goals assumption
  all_goals (unfold FU;omega)
 rw [if_neg he] at hn;simp only [List.append_nil,List.mem_cons,List.not_mem_nil,or_false] at hn
 rcases hn with rfl | rfl | rfl | rfl
 all_goals (unfold FU;omega)
theorem aa1 {r:dx} (h:aP r=0) (he: ¬ jS r.kind=true):r.ev=aT:=by
 unfold aP at h
 split at h
 ·cases h
 split at h
 ·cases h
 try rw [if_neg he] at h
 split at h
 ·assumption
 cases h
theorem ae4 {r:dx} (h:aP r=0):ru (jd (fu r))=(r,0):=by
 have hr:=ae3 h;have h0:tk (jd (fu r)) 0=(r.kind,0):=Qz hr rfl;have hm:jV (jd (fu r))=(fu r).length:=by
  unfold jV;rw [h0];by_cases he:jS r.kind=true
  ·rw [if_pos (show jS (r.kind,(0:Int)).1=true from he)];unfold fu;rw [if_pos he];rfl
  rw [if_neg (show ¬ jS (r.kind,(0:Int)).1=true from he)];unfold fu;rw [if_neg he];rfl
 have hz:wX (jd (fu r)) (fu r).length=0:=sZ fun j hj=>by rw [Qz hr (List.getElem?_eq_getElem hj)]
 have hto:mq (jd (fu r)) (fu r).length=r:=by
  have hv: ∀ j n,(fu r)[j]? =some n→gK (jd (fu r)) (fu r).length j=n:=fun j n hj=>by
   unfold gK;rw [if_pos (List.getElem?_eq_some_iff.1 hj).1,Qz hr hj]
  have hw: ∀ j,(fu r).length≤j→gK (jd (fu r)) (fu r).length j=0:=fun j hj=>if_neg (by omega)
  unfold mq;rw [hv 0 r.kind rfl,hv 1 r.queue rfl,hv 2 r.epoch rfl,hv 3 r.peer rfl];by_cases he:jS r.kind=true
  ·have hn:fu r=[r.kind,r.queue,r.epoch,r.peer,r.ev.kind,r.ev.producer,r.ev.id,r.ev.body,r.ev.aL,r.ev.hno]:=by unfold fu;rw [if_pos he];rfl
   rw [hv 4 r.ev.kind (by rw [hn];rfl),hv 5 r.ev.producer (by rw [hn];rfl),hv 6 r.ev.id (by rw [hn];rfl),hv 7 r.ev.body (by rw [hn];rfl),hv 8 r.ev.aL (by rw [hn];rfl),hv 9 r.ev.hno (by rw [hn];rfl)]
  have hn:(fu r).length=4:=by unfold fu;rw [if_neg he];rfl
  rw [hw 4 (by omega),hw 5 (by omega),hw 6 (by omega),hw 7 (by omega),hw 8 (by omega),hw 9 (by omega)];have:=aa1 h he;unfold aT at this;rw [←this]
 unfold ru;rw [hm,if_neg (by rw [hz];simp),hto,if_neg (by rw [UM hr,h];simp)]
theorem akD {r:dx} (h:aP r=0):l6 r=(jd (fu r),0):=by unfold l6;rw [if_neg (by simpa using h)]
def l7 (r:dx):List UInt8:=ji (l6 r).1
def bW (rs:List dx):List UInt8:=rs.flatMap l7
theorem kE (a b:List dx):bW (a++b)=bW a++bW b:=List.flatMap_append
theorem NV (r:dx):6≤(l7 r).length∧(l7 r).length≤46:=by
 unfold l7;rw [tq];have:=BI r;omega
theorem J8 {p t:List UInt8} (hp:p.length≤65535) {k:Nat} (hk:2≤k):bT ((ji p).take k++t)=p.length:=by
 obtain ⟨k,rfl⟩: ∃ j,k=j+2:=⟨k-2,by omega⟩;unfold ji headed;simp only [List.cons_append,List.take_succ_cons,bT,UInt8.toNat_ofNat'];omega
theorem PD {r:dx} (h:aP r=0) (t:List UInt8):firstM (l7 r++t)=(r,(l7 r).length):=by
 have hl:=BI r;have hfl:(l7 r).length=(l6 r).1.length+6:=tq _;have hpay:bT (l7 r++t)=(l6 r).1.length:=by
  have:=J8 (p:=(l6 r).1) (t:=t) (by omega) (k:=(l7 r).length) (by omega);rwa [show List.take (l7 r).length (ji (l6 r).1)=l7 r from List.take_length] at this
 have hlen:(l7 r++t).length=(l6 r).1.length+6+t.length:=by rw [List.length_append,hfl]
 have hpl:((l7 r++t).drop 2).take (bT (l7 r++t))=(l6 r).1:=by
  rw [hpay];unfold l7 ji headed;simp
 have hd:ru (l6 r).1=(r,0):=by rw [akD h];exact ae4 h
 rw [Mj (by omega) (by rw [hpay];omega) (by rw [hpl,hd]) (by rw [hpl,hpay,←hfl,List.take_left];rfl),hpl,hd,hpay,hfl]
theorem SY {r:dx} {k:Nat} (hk:k< (l7 r).length):(firstM ((l7 r).take k)).2=0:=by
 have hl:=BI r;have hfl:(l7 r).length=(l6 r).1.length+6:=tq _;have h2:((l7 r).take k).length=k:=by rw [List.length_take];omega
 by_cases hs:k<2
 ·rw [xq (by omega)];rfl
 have hpay:=J8 (p:=(l6 r).1) (t:=[]) (by omega) (k:=k) (by omega);rw [List.append_nil] at hpay;have apM:bT ((l7 r).take k)=(l6 r).1.length:=hpay;rw [G7 (by omega) (by rw [h2,apM];omega)];rfl
theorem wF: ∀ {rs:List dx} {t:List UInt8},(∀ r∈rs,aP r=0)→(firstM t).2=0→bK (bW rs++t)=(rs,(bW rs).length)
 | [],t,_,ht=>El (by simpa [bW] using ht)
 | r::rs,t,h,ht=>by
  have e:bW (r::rs)++t=l7 r++(bW rs++t):=by simp [bW,List.flatMap_cons]
  have hf:=PD (h r (by simp)) (bW rs++t);have hlen:=NV r;rw [e,J5 (by rw [hf];show ¬ (l7 r).length=0;omega),hf];simp only [List.drop_left];rw [wF (fun x hx=>h x (by simp [hx])) ht];simp [bW,List.flatMap_cons]
theorem vM:(firstM []).2=0:=by rw [xq (by simp)];rfl
theorem J9: ∀ (rs:List dx) (k:Nat),k≤(bW rs).length→ ∃ j t,(bW rs).take k=bW (rs.take j)++t∧(firstM t).2=0∧j≤rs.length
 | [],k,_=>⟨0,[],by simp [bW],vM,Nat.le_refl _⟩
 | r::rs,k,hk=>by
  have e:bW (r::rs)=l7 r++bW rs:=by simp [bW,List.flatMap_cons]
  by_cases h:k< (l7 r).length
  ·refine ⟨0,(l7 r).take k,?_,SY h,Nat.zero_le _⟩;rw [e,List.take_append_of_le_length (by omega)];simp [bW]
  rw [e,List.length_append] at hk;obtain ⟨j,t,h1,h2,h3⟩:=J9 rs (k-(l7 r).length) (by omega);refine ⟨j+1,t,?_,h2,by simp;omega⟩;rw [e,List.take_append,List.take_of_length_le (by omega),h1];simp [bW,List.flatMap_cons]
theorem Ka {l:List UInt8} {s:Int} {r:dx} (h:(iF l s r).2.2=0):iF l s r=(l++l7 r,s,0)∧aP r=0∧l.length+(l7 r).length≤100000:=by
 unfold iF at h⊢
 split at h
 ·cases h
 split at h
 ·rename_i h2;exact absurd h h2
 split at h
 ·cases h
 rename_i h1 h2 h3
 rw [if_neg h1,if_neg h2,if_neg h3];refine ⟨rfl,?_,by show _+(ji (l6 r).1).length≤_;omega⟩;unfold l6 at h2
 split at h2
 ·exact Classical.not_not.1 h2
 rename_i h4;exact Classical.not_not.1 h4
end Go.Proofs.YtbffmhpkenoogaaGreatDoor
