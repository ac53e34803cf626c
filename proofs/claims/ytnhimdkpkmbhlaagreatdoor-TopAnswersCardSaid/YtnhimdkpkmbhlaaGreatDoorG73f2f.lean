import Derived.Test.YtnhimdkpkmbhlaaGreatDoorG0c18a
import Derived.Test.YtnhimdkpkmbhlaaGreatDoorG9079c
import Derived.Test.YtnhimdkpkmbhlaaGreatDoorG968ce
set_option maxRecDepth 100000
set_option maxHeartbeats 8000000
set_option linter.unusedSimpArgs false
set_option linter.unusedVariables false
namespace Go.Proofs.YtnhimdkpkmbhlaaGreatDoor
open ChangeShapes WideShapes RowKit
def oO (l:List UInt8):Int:=l.foldl (λs c=>s*256+(c.toNat:Int)) 0
theorem X6 (l:List UInt8) (c:UInt8):oO (l++[c])=oO l*256+c.toNat:=by simp [oO]
theorem agP: ∀ (l:List UInt8),l.length<=4->0<=oO l/\oO l<=4294967295
 | [],_=>by simp [oO]
 | [a],_=>by have:=u8_in a;simp [oO];omega
 | [a,b],_=>by have:=u8_in a;have:=u8_in b;simp [oO];omega
 | [a,b,c],_=>by have:=u8_in a;have:=u8_in b;have:=u8_in c;simp [oO];omega
 | [a,b,c,d],_=>by have:=u8_in a;have:=u8_in b;have:=u8_in c;have:=u8_in d;simp [oO];omega
 | _::_::_::_::_::_,h=>by simp at h
def Bg:dM×Nat:=(oJ,0)
def dh (b:List UInt8):Nat:=match b with
 | x::y::_=>x.toNat*256+y.toNat
 | _=>0
def firstM (b:List UInt8):dM×Nat:=
 if b.length<2 then Bg else if b.length<dh b+6 then Bg else if oO ((b.drop (2+dh b)).take 4)≠yC (b.take (2+dh b)) then Bg
 else if (rD ((b.drop 2).take (dh b))).2≠0 then Bg else ((rD ((b.drop 2).take (dh b))).1,dh b+6)
section
variable {b:List UInt8}
theorem xX (h:b.length<2):firstM b=Bg:=if_pos h
theorem Jm (h: ¬ b.length<2) (h1:b.length<dh b+6):firstM b=Bg:=by unfold firstM;rw [if_neg h,if_pos h1]
theorem UM (h: ¬ b.length<2) (h1: ¬ b.length<dh b+6) (h2:oO ((b.drop (2+dh b)).take 4)≠yC (b.take (2+dh b))):firstM b=Bg:=by unfold firstM;rw [if_neg h,if_neg h1,if_pos h2]
theorem UN (h: ¬ b.length<2) (h1: ¬ b.length<dh b+6) (h2:oO ((b.drop (2+dh b)).take 4)=yC (b.take (2+dh b))) (h3:(rD ((b.drop 2).take (dh b))).2≠0):firstM b=Bg:=by
 unfold firstM;rw [if_neg h,if_neg h1,if_neg (by simpa using h2),if_pos h3]
theorem LG (h: ¬ b.length<2) (h1: ¬ b.length<dh b+6) (h2:oO ((b.drop (2+dh b)).take 4)=yC (b.take (2+dh b))) (h3:(rD ((b.drop 2).take (dh b))).2=0):firstM b=((rD ((b.drop 2).take (dh b))).1,dh b+6):=by
 unfold firstM;rw [if_neg h,if_neg h1,if_neg (by simpa using h2),if_neg (by simpa using h3)]
theorem wz:(firstM b).2<=b.length:=by
 unfold firstM Bg
 split
 ·exact Nat.zero_le _
 split
 ·exact Nat.zero_le _
 split
 ·exact Nat.zero_le _
 split
 ·exact Nat.zero_le _
 simp;omega
theorem amA {x y:UInt8} (hx:b[0]? =some x) (hy:b[1]? =some y):dh b=x.toNat*256+y.toNat:=by
 match b,hx,hy with
 | x'::y'::r,hx,hy=>
  simp at hx hy;subst hx;subst hy;rfl
 | [_],_,hy=>simp at hy
end
def pJ:Nat->List UInt8->List dM×Nat
 | 0,_=>([],0)
 | f+1,b=>if (firstM b).2=0 then ([],0) else ((firstM b).1::(pJ f (b.drop (firstM b).2)).1,(firstM b).2+(pJ f (b.drop (firstM b).2)).2)
theorem FP: ∀ (f g:Nat) (b:List UInt8),b.length<f->b.length<g->pJ f b=pJ g b
 | 0,_,b,h,_=>absurd h (by omega)
 | _,0,b,_,h=>absurd h (by omega)
 | f+1,g+1,b,hf,hg=>by
  unfold pJ;by_cases h:(firstM b).2=0
  ·rw [if_pos h,if_pos h]
  rw [if_neg h,if_neg h,FP f g _ (by rw [List.length_drop];have:= @wz b;omega) (by rw [List.length_drop];have:= @wz b;omega)]
def bP (b:List UInt8):List dM×Nat:=pJ (b.length+1) b
theorem FQ {b:List UInt8} (h:(firstM b).2=0):bP b=([],0):=by unfold bP pJ;rw [if_pos h]
theorem LH {b:List UInt8} (h: ¬ (firstM b).2=0):bP b=((firstM b).1::(bP (b.drop (firstM b).2)).1,(firstM b).2+(bP (b.drop (firstM b).2)).2):=by
 unfold bP;rw [pJ,if_neg h,FP b.length ((b.drop (firstM b).2).length+1) _ (by rw [List.length_drop];have:= @wz b;omega) (by omega)]
theorem LJ: ∀ (f:Nat) (b:List UInt8),(pJ f b).2<=b.length/\(pJ f b).1.length<=b.length
 | 0,b=>by simp [pJ]
 | f+1,b=>by
  unfold pJ
  split
  ·simp
  rename_i h
  have h1:=LJ f (b.drop (firstM b).2);rw [List.length_drop] at h1;have h2:= @wz b;simp;omega
def sJ (l:List UInt8) (s:Int):List dM×Nat×Int:=if dz l s=true then ((bP l).1,(bP l).2,0) else ([],0,6)
def dM.cells (r:dM):List Value:=[iV r.kind,iV r.queue,iV r.epoch,iV r.peer,iV r.ev.kind,iV r.ev.producer,iV r.ev.id,iV r.ev.body,iV r.ev.aQ,iV r.ev.hno]
def acO (w:World) (r:List dM×Nat×Int) (e:Ending) (w':World):Prop:=
 ∃ A c,e= .returned (.tuple #[.slice A r.1.length c,iV (r.2.1:Int),iV r.2.2])/\St w.heap.size w w' [.own 171 10 (.slice A r.1.length c) r.1.length (r.1.flatMap dM.cells)]
def J2 (x:UInt8):List Value:=[.int .u8 x.toNat]
theorem Px (l:List UInt8):byteCells l=l.flatMap J2:=by
 induction l with
 | nil=>rfl
 | cons a l ih=>rw [List.flatMap_cons,<-ih];rfl
theorem aoo {w:World} {B:Nat} {A:Option Addr} {n:Nat} {l:List UInt8} (h:Rd w B 1 A n (byteCells l)):Rd w B 1 A n (l.flatMap J2):=Px l▸h
theorem ajz {w:World} {B:Nat} {A:Option Addr} {n:Nat} {l:List UInt8} (h:Rd w B 1 A n (l.flatMap J2)):Rd w B 1 A n (byteCells l):=(Px l).symm▸h
theorem abm {l:List UInt8}:(l.take 4).take 4=l.take 4:=by simp [List.take_take]
theorem X7 {l:List UInt8} {k:Nat} {x:UInt8} (h:l[k]? =some x):oO (l.take k)*256+(x.toNat:Int)=oO (l.take (k+1)):=by
 rw [List.take_add_one,h,<-X6];rfl
def X8 (w:World) (r:dM×Nat) (e:Ending) (w':World):Prop:=e= .returned (.tuple #[r.1.val,iV (r.2:Int)])/\Below w.heap.size w w'
theorem QZ (A:Option Addr) (c:Nat) (b:List UInt8) (w:World) (h:Rd w w.heap.size 1 A b.length (byteCells b)) (hn:b.length<=c) (hcm:c<=9223372036854775807) (hb:b.length<=100000):
    Calls Tryz.prog 84 #[.slice A b.length c] w (X8 w (firstM b)):=by
 have S:=(St.start w).bZ (aoo h);refine gy 69 Tryz.func84 ?_;refine cw [0] ?_;refine zN 2 ?_;refine fO S vI ?_;intro b1 w2 S3;refine zN 8 ?_;by_cases h4:((b.length:Nat):Int)<2
 ·refine zN 7 ?_;refine sa 0 S3 jW ?_;intro w5 S6;refine zN 6 ?_;exact ⟨by rw [xX (by omega)];rfl,S6.low⟩
 refine zN 7 ?_;refine dY S3 mixed (by kernel_rfl) ?_;refine zQ ?_;obtain ⟨b8,o9,rfl⟩:=Rd.addr (St.rd 1 S3 rfl) (by omega);obtain ⟨x10,EI⟩:=Ho 0 (St.rd 1 S3 rfl) (by omega);refine uv (λ_ _=>jX 0) ?_;refine uv (v:= .int .u8 ((x10).toNat:Int)) (λ_ OU=>(ah rfl rfl (av Tryz.underlying5 rfl (Rd.XF (i:=0) (St.rd 1 OU rfl) (bC (enc:=J2) (sz:=1) (λ_=>rfl) EI rfl))))) ?_;refine uv (v:=iV ((x10).toNat:Int)) (λ_ _=>(Eu rfl rfl (M0 (a:=x10) rfl (by kernel_rfl)))) ?_;have aFE:=u8_in x10;refine uv (v:=iV (((x10).toNat:Int)*256)) (λ_ _=>(aF rfl rfl rfl (aa0 rfl (by omega) (by omega)))) ?_;refine uv (v:=iV (2+(((x10).toNat:Int)*256))) (λ_ _=>jg) ?_;refine zQ ?_;obtain ⟨x19,aop⟩:=Ho 1 (St.rd 1 S3 rfl) (by omega);refine uv (λ_ _=>jX 1) ?_;refine uv (v:= .int .u8 ((x19).toNat:Int)) (λ_ EG=>(ah rfl rfl (av Tryz.underlying5 rfl (Rd.XF (i:=0) (St.rd 1 EG rfl) (bC (enc:=J2) (sz:=1) (λ_=>rfl) aop rfl))))) ?_;refine uv (v:=iV ((x19).toNat:Int)) (λ_ _=>(Eu rfl rfl (M0 (a:=x19) rfl (by kernel_rfl)))) ?_;have aFF:=u8_in x19;have aFG:=amA EI aop;have aFH:dh b<=65535:=by omega
 refine uv (v:=iV ((2+dh b:Nat):Int)) (λ_ _=>(aF rfl rfl rfl (by rw [show ((2+dh b:Nat):Int)=2+(((x10).toNat:Int)*256)+((x19).toNat:Int) by omega];exact lS (by omega) (by omega)))) ?_;refine zQ ?_;refine fC λRY nH=>?_;refine zN 7 ?_;refine vv (v:=iV (((2+dh b)+4:Nat):Int)) jg ?_;by_cases h30:((b.length:Nat):Int)< (((2+dh b)+4:Nat):Int)
 ·refine zN 7 ?_;refine sa 0 nH jW ?_;intro X9 qj;refine zN 6 ?_;exact ⟨by rw [Jm (by omega) (by omega)];rfl,qj.low⟩
 refine zN 17 ?_;refine vv (v:=iV (((2+dh b)+4:Nat):Int)) jg ?_;refine zQ ?_;refine vv (v:=iV (((2+dh b)+4:Nat):Int)) jg ?_;obtain ⟨A33,awT,ajA⟩:=Lm (b:=b) (c:=c) (lo:=(some (iV ((2+dh b:Nat):Int)))) (hi:=(some (iV (((2+dh b)+4:Nat):Int)))) (mx:=(some (iV (((2+dh b)+4:Nat):Int)))) (l:=2+dh b) (k:=2+dh b+4) (q:=2+dh b+4) (m:=4) (c':=4) Tryz.underlying114 SC (aaZ (2+dh b) (2+dh b+4) (2+dh b+4) rfl rfl rfl (by omega) (by omega) (by omega)) (ajz (show Rd _ _ _ _ _ _ from nH.all 1 _ rfl)) (by omega) (by omega) (by omega) (by omega) (by omega)
 replace ajA:Rd _ _ _ _ _ (((b.drop (2+dh b)).take 4).flatMap J2):=aoo ajA
 have kF:=nH.bZ ajA;refine vv (v:= .slice A33 4 4) (jI rfl rfl (iX rfl) (iX rfl) (iX rfl) (awT _)) ?_;refine zN 5 ?_;refine eD (X:=Nat) (λxv=>[(0,.slice (some ⟨b8,o9,none⟩) b.length c),(2,.pointer (some ⟨b1,0,none⟩)),(3,iV 0),(4,iV ((2+dh b:Nat):Int)),(37,.slice A33 4 4),(38,iV 4),(5,iV (oO (((b.drop (2+dh b)).take 4).take xv))),(39,iV ((xv:Nat):Int))]) (λxv wr=>(xv<=4)/\St w.heap.size w wr [.rd 1 A33 4 (((b.drop (2+dh b)).take 4).flatMap J2),.blk b1 #[iV 0,iV 0,iV 0,iV 0,iV 0,iV 0,iV 0,iV 0,iV 0,iV 0] 171,.rd 1 (some ⟨b8,o9,none⟩) b.length ((b).flatMap J2)]) (λxv=>4-xv) (0) ?_ ?_ ?_
 ·exact ⟨Nat.zero_le _,kF⟩
 ·exact ⟨rfl,rfl,rfl,rfl,rfl,rfl,rfl,rfl,trivial⟩
 rintro k Wx ⟨J3,kT⟩
 try dsimp only at J3 kT
 refine bn (l':=[(0,.slice (some ⟨b8,o9,none⟩) b.length c),(2,.pointer (some ⟨b1,0,none⟩)),(3,iV 0),(4,iV ((2+dh b:Nat):Int)),(37,.slice A33 4 4),(38,iV 4),(5,iV (oO (((b.drop (2+dh b)).take 4).take k))),(39,iV ((k:Nat):Int))]) ⟨rfl,rfl,rfl,rfl,rfl,rfl,rfl,rfl,trivial⟩ (aH (aB ?_));by_cases h40:((k:Nat):Int)<4
 ·refine zN 11 ?_;obtain ⟨b41,o42,rfl⟩:=Rd.addr (St.rd 0 kT rfl) (by omega);obtain ⟨x43,aor⟩:=Ho k (St.rd 0 kT rfl) (by omega);refine vv (jX k) ?_;refine vv (ah rfl rfl (av Tryz.underlying5 rfl (Rd.XF (i:=0) (St.rd 0 kT rfl) (bC (enc:=J2) (sz:=1) (λ_=>rfl) aor rfl)))) ?_;refine zN 5 ?_;have aFI:=agP (((b.drop (2+dh b)).take 4).take k) (by simp;omega);refine vv (v:=iV (oO (((b.drop (2+dh b)).take 4).take k)*256)) (aF rfl rfl rfl (aa0 rfl (by omega) (by omega))) ?_;refine zQ ?_;refine vv (v:=iV ((x43).toNat:Int)) (Eu rfl rfl (M0 (a:=x43) rfl (by kernel_rfl))) ?_;have aFJ:=u8_in x43;refine vv (v:=iV (oO (((b.drop (2+dh b)).take 4).take k)*256+((x43).toNat:Int))) (aF rfl rfl rfl (arj rfl (by omega) (by omega) (by omega) (by omega))) ?_;refine zN 5 ?_;refine vv (v:=iV ((k+1:Nat):Int)) jg ?_;refine zN 2 ?_;refine aU (k+1) ?_ ⟨rfl,rfl,rfl,rfl,rfl,rfl,(alj (X7 aor)),rfl,trivial⟩ (by first | omega | (dsimp only;omega));exact ⟨(by omega),kT⟩
 refine zN 16 ?_;obtain ⟨KC,awU,ajB⟩:=Lm (b:=b) (c:=c) (lo:=none) (hi:=(some (iV ((2+dh b:Nat):Int)))) (mx:=none) (l:=0) (k:=2+dh b) (q:=c) (m:=2+dh b) (c':=c) Tryz.underlying114 SC (avw (2+dh b) rfl (by omega)) (ajz (show Rd _ _ _ _ _ _ from kT.all 2 _ rfl)) (by omega) (by omega) (by omega) (by omega) (by omega)
 replace ajB:Rd _ _ _ _ _ (byteCells (b.take (2+dh b))):=ajB
 have wm:=kT.bZ ajB;refine vv (v:= .slice KC (2+dh b) c) (jI rfl rfl ng (iX rfl) ng (awU _)) ?_;refine dN arJ (K6 _ _ _ (b.take (2+dh b)) _ (St.rd 0 wm rfl) (by omega)) ?_;rintro _ XY ⟨rfl,q53,rfl⟩;refine ⟨_,rfl,?_⟩;have nT:=wm.drewN q53;obtain rfl:k=4:=by omega
 by_cases h54:oO ((b.drop (2+dh b)).take 4)=yC (b.take (2+dh b))
 ·refine vv (v:= .bool false) (aF rfl rfl rfl (Ce (by rw [abm];exact h54))) ?_;refine zN 9 ?_;obtain ⟨A55,awV,ajC⟩:=Lm (b:=b) (c:=c) (lo:=(some (iV 2))) (hi:=(some (iV ((2+dh b:Nat):Int)))) (mx:=none) (l:=2) (k:=2+dh b) (q:=c) (m:=dh b) (c':=c-2) Tryz.underlying114 SC (SB 2 (2+dh b) rfl rfl (by omega) (by omega)) (ajz (show Rd _ _ _ _ _ _ from nT.all 3 _ rfl)) (by omega) (by omega) (by omega) (by omega) (by omega)
  replace ajC:Rd _ _ _ _ _ (byteCells ((b.drop 2).take (dh b))):=ajC
  have Bz:=nT.bZ ajC;refine vv (v:= .slice A55 (dh b) (c-2)) (jI rfl rfl (iX rfl) (iX rfl) ng (awV _)) ?_;refine cab arK Bz (ND A55 (dh b) (c-2) ((b.drop 2).take (dh b)) _ (St.rd 0 Bz rfl) (by omega) (by unfold maxLen;omega)) ?_;intro w59 R8;refine zN 3 ?_;refine fO R8 vI ?_;intro b62 w63 S64;refine sa 0 S64 jW ?_;intro w65 EJ;refine zN 7 ?_;by_cases AP:(rD ((b.drop 2).take (dh b))).2=0
  ·refine zN 10 ?_;refine vv (v:=iV (((2+dh b)+4:Nat):Int)) jg ?_;refine sa 4 EJ jW ?_;intro w68 uw;refine zN 5 ?_;exact ⟨by rw [LG (by omega) (by omega) h54 AP];exact congrArg Ending.returned (by show Value.tuple #[_,iV _]=Value.tuple #[_,iV _];rw [show ((2+dh b+4:Nat):Int)=((dh b+6:Nat):Int) by omega];rfl),uw.low⟩
  refine zN 7 ?_;refine sa 4 EJ jW ?_;intro XZ rz;refine zN 6 ?_;exact ⟨by rw [UN (by omega) (by omega) h54 AP];rfl,rz.low⟩
 refine vv (v:= .bool true) (aF rfl rfl rfl (Gn (by rw [abm];exact h54))) ?_;refine zN 6 ?_;refine sa 2 nT jW ?_;intro w72 rY;refine zN 6 ?_;exact ⟨by rw [UM (by omega) (by omega) h54];rfl,rY.low⟩
theorem LK {w:World} {base:Nat} {e:TypeId} {size:Nat} {A:Option Addr} {n c:Nat} {xs:List Value} (h:w.ownsRow base e size (.slice A n c) n xs):n<=c/\c<=maxLen:=by
 obtain ⟨A',c',e1,h1,h2⟩:=lX h
 cases e1;exact ⟨h1,h2⟩
theorem NZ {l:List UInt8}:bP l=([]++(bP (l.drop 0)).1,0+(bP (l.drop 0)).2):=by simp
theorem Q0 {l:List UInt8} {acc:List dM} {p:Nat} (h:bP l=(acc++(bP (l.drop p)).1,p+(bP (l.drop p)).2)) (h1: ¬ (firstM (l.drop p)).2=0):
  bP l=(acc++[(firstM (l.drop p)).1]++(bP (l.drop (p+(firstM (l.drop p)).2))).1,p+(firstM (l.drop p)).2+(bP (l.drop (p+(firstM (l.drop p)).2))).2):=by
 rw [h,LH h1,List.drop_drop,List.append_assoc,Nat.add_assoc];rfl
theorem Ya {l:List UInt8} {s:Int} {acc:List dM} {p:Nat} (hm:dz l s=true) (h:bP l=(acc++(bP (l.drop p)).1,p+(bP (l.drop p)).2)) (h1:(firstM (l.drop p)).2=0):sJ l s=(acc,p,0):=by
 unfold sJ;rw [if_pos hm,h,FQ h1];simp
theorem BL (A:Option Addr) (c:Nat) (l:List UInt8) (s:Int) (w:World) (h:Rd w w.heap.size 1 A l.length (byteCells l)):
    Calls Tryz.prog 61 #[.agg #[.slice A l.length c,iV s]] w (acO w (sJ l s)):=by
 have S:=(St.start w).bZ h;refine gy 37 Tryz.func61 ?_;refine cw [0] ?_;refine zN 2 ?_;refine iC S ?_;intro b1 w2 S3;refine zN 8 ?_
 rcases yO l s with ⟨ho,hm⟩ | ⟨ho,hm⟩
 ·have HO:=λw h=>kZ A l.length c l s w h;rw [ho] at HO;refine dN aaw (HO _ (St.rd 1 S3 rfl)) ?_;rintro _ w8 ⟨A4,c5,rfl,hb6,hO7⟩;refine ⟨_,rfl,?_⟩;have S9:=S3.sD hb6 hO7;clear HO hb6 hO7 S3;change St _ _ _ [.own 5 1 (.slice A4 l.length c5) l.length (byteCells l),.blk b1 #[.slice A l.length c,iV s] 116,.rd 1 A l.length (byteCells l)] at S9;have hcap:=LK (S9.own 0 rfl);unfold maxLen at hcap;have hlen:l.length<=100000:=(nU hm).1;refine zN 3 ?_;refine fO S9 xV ?_;intro b10 FM lN;refine sa 0 lN eZ ?_;intro Cm jY;refine zN 15 ?_;have gZ:=jY.nil 171 10;refine zN 9 ?_;have lV:=gZ.aT [4];refine eD (X:=(List dM)×Nat×Nat×(Option Addr)×Nat) (λxv=>[(2,.slice none 0 0),(3,iV 0),(4,iV 0),(5,.pointer (some ⟨b10,0,none⟩)),(7,.slice xv.2.2.2.1 xv.2.2.1 xv.2.2.2.2),(8,iV ((xv.2.1:Nat):Int))]) (λxv wr=>(bP l=(xv.1++(bP (l.drop xv.2.1)).1,xv.2.1+(bP (l.drop xv.2.1)).2))/\(xv.2.1<=l.length)/\(xv.2.2.1<=xv.2.1)/\(xv.2.2.1=xv.1.length)/\St w.heap.size w wr [.own 171 10 (.slice xv.2.2.2.1 xv.2.2.1 xv.2.2.2.2) xv.2.2.1 ((xv.1).flatMap dM.cells),.blk b10 #[.slice A4 l.length c5,iV s] 116,.own 5 1 (.slice A4 l.length c5) l.length (byteCells l),.blk b1 #[.slice A l.length c,iV s] 116]) (λxv=>l.length-xv.2.1) ([],0,0,none,0) ?_ ?_ ?_
  ·exact ⟨NZ,Nat.zero_le _,Nat.le_refl _,rfl,lV⟩
  ·exact ⟨rfl,rfl,rfl,rfl,rfl,rfl,trivial⟩
  rintro ⟨acc,p,m,A9,c9⟩ Kz ⟨ajD,awW,hi21,hi22,iQ⟩
  try dsimp only at ajD awW hi21 hi22 iQ
  refine bn (l':=[(2,.slice none 0 0),(3,iV 0),(4,iV 0),(5,.pointer (some ⟨b10,0,none⟩)),(7,.slice A9 m c9),(8,iV ((p:Nat):Int))]) ⟨rfl,rfl,rfl,rfl,rfl,rfl,trivial⟩ (lg (aH (aB (vv (fu 0 VY) ?_))));refine zN 2 ?_;obtain ⟨A23,awX,aou⟩:=Lm (b:=l) (c:=c5) (lo:=(some (iV ((p:Nat):Int)))) (hi:=none) (mx:=none) (l:=p) (k:=l.length) (q:=c5) (m:=(l.drop p).length) (c':=c5-p) Tryz.underlying114 SC (ad7 p rfl (by omega)) (St.ord 2 iQ rfl) (by omega) (by omega) (by omega) List.length_drop.symm rfl;rw [List.take_length] at aou;refine vv (v:= .slice A23 ((l.drop p).length) (c5-p)) (jI rfl rfl (iX rfl) ng ng (awX _)) ?_;refine dN arC (QZ A23 (c5-p) (l.drop p) _ aou (by rw [List.length_drop];omega) (by omega) (by rw [List.length_drop];omega)) ?_;rintro _ LB ⟨rfl,aef⟩;refine ⟨_,rfl,?_⟩;have rW:=iQ.on aef;clear aef iQ;have hfl:= @wz (l.drop p);rw [List.length_drop] at hfl;refine zN 3 ?_;refine fO rW vI ?_;intro b29 Wv ni;refine sa 0 ni jW ?_;intro w32 qK;refine zN 7 ?_;by_cases h34:(((firstM (l.drop p)).2:Nat):Int)=0
  ·refine zN 19 ?_;have rZ:=qK.aT [4,3,2,0];have hz:sJ l s=(acc,p,0):=Ya hm ajD (by omega);rw [hz];subst hi22;exact ⟨_,_,rfl,rZ⟩
  refine zN 10 ?_;refine NS qK ?_;intro tL Wx kT;refine dI (news:=[iV ((firstM (l.drop p)).1.kind),iV ((firstM (l.drop p)).1.queue),iV ((firstM (l.drop p)).1.epoch),iV ((firstM (l.drop p)).1.peer),iV ((firstM (l.drop p)).1.ev.kind),iV ((firstM (l.drop p)).1.ev.producer),iV ((firstM (l.drop p)).1.ev.id),iV ((firstM (l.drop p)).1.ev.body),iV ((firstM (l.drop p)).1.ev.aQ),iV ((firstM (l.drop p)).1.ev.hno)]) (xs':=(acc++[(firstM (l.drop p)).1]).flatMap dM.cells) 2 kT (wn rfl) rfl rfl rfl rfl rfl rfl (St.lC (xs:=[iV ((firstM (l.drop p)).1.kind),iV ((firstM (l.drop p)).1.queue),iV ((firstM (l.drop p)).1.epoch),iV ((firstM (l.drop p)).1.peer),iV ((firstM (l.drop p)).1.ev.kind),iV ((firstM (l.drop p)).1.ev.producer),iV ((firstM (l.drop p)).1.ev.id),iV ((firstM (l.drop p)).1.ev.body),iV ((firstM (l.drop p)).1.ev.aQ),iV ((firstM (l.drop p)).1.ev.hno)]) 0 kT rfl rfl rfl) Tryz.underlying153 M6 rfl (by decide) (bL rfl) (by simp only [maxLen];omega) (by omega) (iO (enc:=dM.cells) rfl rfl) ?_;intro FR c40 w41 aFK aFL uL;refine zN 6 ?_;refine vv (v:=iV ((p+((firstM (l.drop p)).2):Nat):Int)) jg ?_;refine zN 3 ?_;have nI:=uL.aT [1,0];refine aU (acc++[(firstM (l.drop p)).1],p+(firstM (l.drop p)).2,m+1,FR,c40) ?_ ⟨rfl,rfl,rfl,rfl,rfl,rfl,trivial⟩ (by first | omega | (dsimp only;omega));exact ⟨(Q0 ajD (by omega)),(by dsimp only;omega),(by dsimp only;omega),(by dsimp only;simp [hi22]),nI⟩
 have HO:=λw h=>kZ A l.length c l s w h;rw [ho] at HO;refine dN aaw (HO _ (St.rd 1 S3 rfl)) ?_;rintro _ R7 ⟨A46,c47,rfl,hb48,aov⟩;refine ⟨_,rfl,?_⟩;have uq:=S3.sD hb48 aov;clear HO hb48 aov S3;refine zN 3 ?_;refine fO uq xV ?_;intro b52 w53 mD;refine sa 0 mD eZ ?_;intro w55 FT;refine zN 21 ?_;have qh:=FT.aT [3,2,1,0];rw [show sJ l s=([],0,6) from if_neg (by rw [hm];simp)];exact ⟨none,0,rfl,qh.nil 171 10⟩
theorem agQ {l:List UInt8} {s:Int} (h:dz l s=true):F4 l s=(l,s,true):=by
 rcases yO l s with ⟨h1,_⟩ | ⟨_,h1⟩
 ·exact h1
 rw [h] at h1;cases h1
def jw (l:List UInt8) (s:Int):List UInt8×Int×Int:=if dz l s=true then (l.take (bP l).2,min s (bP l).2,0) else ([],0,6)
def agR (w:World) (r:List UInt8×Int×Int) (e:Ending) (w':World):Prop:=
 ∃ A c,e= .returned (.tuple #[.agg #[.slice A r.1.length c,iV r.2.1],iV r.2.2])/\St w.heap.size w w' [.cZ 1 A r.1.length (byteCells r.1)]
theorem N7 (A:Option Addr) (c:Nat) (l:List UInt8) (s:Int) (w:World) (h:Rd w w.heap.size 1 A l.length (byteCells l)):
    Calls Tryz.prog 60 #[.agg #[.slice A l.length c,iV s]] w (agR w (jw l s)):=by
 have S:=(St.start w).bZ h;refine gy 34 Tryz.func60 ?_;refine cw [0] ?_;refine zN 2 ?_;refine iC S ?_;intro b1 w2 S3;refine fO S3 xV ?_;intro b4 w5 S6;refine zN 6 ?_;have hle:=LJ (l.length+1) l;rw [<-show bP l=pJ (l.length+1) l from rfl] at hle
 cases hm:dz l s
 ·have HR:=λw h=>BL A c l s w h;rw [show sJ l s=([],0,6) from if_neg (by rw [hm];simp)] at HR;refine dN ajq (HR _ (St.rd 2 S6 rfl)) ?_;rintro _ w9 ⟨A7,c8,rfl,T11⟩;refine ⟨_,rfl,?_⟩;have pI:=S6.ext T11 rfl;change St _ _ _ [.own 171 10 (.slice A7 (([]:List dM).length) c8) (([]:List dM).length) ((([]:List dM)).flatMap dM.cells),_,_,_] at pI;refine zN 21 ?_;refine sa 1 pI eZ ?_;intro XW wX;refine zN 6 ?_;have jY:=wX.aT [3,2,1,0];rw [show jw l s=([],0,6) from if_neg (by rw [hm];simp)];exact ⟨none,0,rfl,aG jY⟩
 have HR:=λw h=>BL A c l s w h;rw [show sJ l s=((bP l).1,(bP l).2,0) from if_pos hm] at HR;have hlen:l.length<=100000:=(nU hm).1;refine dN ajq (HR _ (St.rd 2 S6 rfl)) ?_;rintro _ Kz ⟨A15,c16,rfl,T19⟩;refine ⟨_,rfl,?_⟩;have iQ:=S6.ext T19 rfl;change St _ _ _ [.own 171 10 (.slice A15 ((bP l).1.length) c16) ((bP l).1.length) (((bP l).1).flatMap dM.cells),_,_,_] at iQ;refine zN 8 ?_;refine yw (vv (v:=iV 0) ym ?_);refine vv Ga ?_;refine zN 8 ?_;have HO:=λw h=>kZ A l.length c l s w h;rw [agQ hm] at HO;refine dN aaw (HO _ (St.rd 3 iQ rfl)) ?_;rintro _ LM ⟨Yb,c21,rfl,Yc,aoy⟩;refine ⟨_,rfl,?_⟩;have jm:=iQ.sD Yc aoy;clear HO Yc aoy iQ;change St _ _ _ [.own 5 1 (.slice Yb l.length c21) l.length (byteCells l),.own 171 10 (.slice A15 ((bP l).1.length) c16) ((bP l).1.length) (((bP l).1).flatMap dM.cells),.blk b4 #[.slice none 0 0,iV 0] 116,.blk b1 #[.slice A l.length c,iV s] 116,.rd 1 A l.length (byteCells l)] at jm;have hcap:=LK (jm.own 0 rfl);unfold maxLen at hcap;refine zN 3 ?_;refine fO jm xV ?_;intro X4 KA qJ;refine sa 0 qJ eZ ?_;intro w29 yB;refine zN 4 ?_;have ni:=yB.drew;refine fq 12 10 ni [] ?_;iterate 4 refine gK ?_
 obtain ⟨A36,awY,awZ,aw0⟩:=afI (b:=l) (A:=Yb) (c:=c21) (lo:=none) (hi:=some (iV (((bP l).2:Nat):Int))) (mx:=some (iV (((bP l).2:Nat):Int))) (l:=0) (k:=(bP l).2) (q:=(bP l).2) (m:=(bP l).2) (c':=(bP l).2) Tryz.underlying114 SC (ahZ ((bP l).2) ((bP l).2) rfl rfl (Nat.le_refl _) (by omega)) (by omega) (by omega) (by omega) rfl rfl;refine gk (v:= .slice A36 ((bP l).2) ((bP l).2)) 4 rfl ni (λ_ _=>(jI rfl rfl ng (iX rfl) (iX rfl) (awY _))) ?_;iterate 3 refine gK ?_
 refine Ci (v:=iV (min s ((((bP l).2:Nat):Int)))) (i:=8) (m:=3) rfl (by kernel_rfl) (by kernel_rfl) (by kernel_rfl) rfl (by kernel_rfl) rfl ni rfl (wn rfl) rfl rfl (λ_ _=>(jQ (vs:=[iV s,iV (((bP l).2:Nat):Int)]) rfl ⟨rfl,rfl,trivial⟩ λ_=>ah0)) ?_;refine Ci (v:= .agg #[.slice A36 ((bP l).2) ((bP l).2),iV (min s ((((bP l).2:Nat):Int)))]) (i:=9) (m:=2) rfl (by kernel_rfl) (by kernel_rfl) (by kernel_rfl) rfl (by kernel_rfl) rfl ni rfl (wn rfl) rfl rfl (λ_ _=>(Cc (vs:=[(0,.slice A36 ((bP l).2) ((bP l).2)),(1,iV (min s ((((bP l).2:Nat):Int))))]) rfl ⟨rfl,rfl,rfl,rfl,trivial⟩ (by kernel_rfl))) ?_;refine eG (by kernel_rfl) rfl rfl rfl ?_;refine sa 3 ni eZ ?_;intro Wy xY;refine zN 2 ?_;refine iK ?_;refine zN 3 ?_;have uZ:=xY.seal 1 rfl (awZ _ _ (St.ord 1 xY rfl)) (λa h=>aw0 a h);have sK:=uZ.aT [5,4,3,2,0];have hlt:(l.take (bP l).2).length=(bP l).2:=by rw [List.length_take];omega
 rw [show jw l s=(l.take (bP l).2,min s (bP l).2,0) from if_pos hm];exact ⟨A36,(bP l).2,by rw [hlt];rfl,by rw [hlt];exact sK⟩
theorem CZ {a:UInt8} {n:Int} (h:n=a.toNat):UInt8.ofNat n.toNat=a:=by
 subst h;simp
theorem Yd {a b c d:UInt8} {n:Int} (h:n=16777216*(a.toNat:Int)+65536*(b.toNat:Int)+256*(c.toNat:Int)+(d.toNat:Int)):yg n=[a,b,c,d]:=by
 have:=u8_in a;have:=u8_in b;have:=u8_in c;have:=u8_in d;unfold yg;rw [CZ (a:=a) (by omega),CZ (a:=b) (by omega),CZ (a:=c) (by omega),CZ (a:=d) (by omega)]
theorem LP {a b c d:UInt8}:oO [a,b,c,d]=16777216*(a.toNat:Int)+65536*(b.toNat:Int)+256*(c.toNat:Int)+(d.toNat:Int):=by
 simp [oO];omega
theorem acP {q:List UInt8} {s:Int} (hq:q.length=4) (h0:0<=s) (h1:s<=4294967295):oO q=s↔yg s=q:=by
 match q,hq with
 | [a,b,c,d],_=>
  constructor
  ·intro h;rw [LP] at h;exact Yd h.symm
  intro h;have ha:=u8_in a;have hb:=u8_in b;have hc:=u8_in c;have hd:=u8_in d;unfold yg at h;simp only [List.cons.injEq,and_true] at h;obtain ⟨e1,e2,e3,e4⟩:=h;subst e1;subst e2;subst e3;subst e4;rw [LP];simp only [UInt8.toNat_ofNat'];omega
section
variable {b:List UInt8}
theorem UO (h: ¬ b.length<2) (h1: ¬ b.length<dh b+6):headed ((b.drop 2).take (dh b))=b.take (2+dh b):=by
 match b,h,h1 with
 | x::y::r,_,h1=>
  have e:dh (x::y::r)=x.toNat*256+y.toNat:=rfl;have hx:=x.toNat_lt;have hy:=y.toNat_lt;have hl:((List.drop 2 (x::y::r)).take (dh (x::y::r))).length=dh (x::y::r):=by
   rw [List.length_take,List.length_drop];omega
  unfold headed;rw [hl,show UInt8.ofNat (dh (x::y::r) / 256)=x by rw [e,show (x.toNat*256+y.toNat) / 256=x.toNat by omega];simp,
   show UInt8.ofNat (dh (x::y::r) % 256)=y by rw [e,show (x.toNat*256+y.toNat) % 256=y.toNat by omega];simp]
  rw [Nat.add_comm 2];rfl
 | [],h,_=>simp at h
 | [_],h,_=>simp at h
theorem Ye (h: ¬ b.length<2) (h1: ¬ b.length<dh b+6):oO ((b.drop (2+dh b)).take 4)=yC (b.take (2+dh b))↔jB ((b.drop 2).take (dh b))=b.take (dh b+6):=by
 unfold jB;rw [UO h h1,show dh b+6=(2+dh b)+4 by omega,List.take_add (i:=2+dh b) (j:=4),List.append_cancel_left_eq];obtain ⟨s0,s1⟩:=Ji (b.take (2+dh b));exact acP (by rw [List.length_take,List.length_drop];omega) s0 (by omega)
theorem N8 (h: ¬ b.length<2) (h1: ¬ b.length<dh b+6) (h3:(rD ((b.drop 2).take (dh b))).2=0) (hf:jB ((b.drop 2).take (dh b))=b.take (dh b+6)):firstM b=((rD ((b.drop 2).take (dh b))).1,dh b+6):=
 LG h h1 ((Ye h h1).2 hf) h3
end
def Hy (n:Int):Prop:=0<=n/\n<=2147483647
theorem agS {n:Int} (h:Hy n):(p8 n).1=yg n:=by unfold p8;unfold Hy at h;rw [if_pos h]
theorem acQ {n:Int} (h:Hy n) (t:List UInt8):nP (yg n++t)=(n,0):=by
 obtain ⟨h0,h1⟩:=h;unfold yg nP;simp only [List.cons_append,List.nil_append,UInt8.toNat_ofNat'];rw [if_neg (by omega)];simp only [Prod.mk.injEq,and_true];omega
theorem EK {n:Int} {l:List Int} (h:Hy n):jv (n::l)=yg n++jv l:=by
 show (n::l).flatMap _=_
 rw [List.flatMap_cons,agS h];rfl
theorem Wz: ∀ {l:List Int},(∀ n∈l,Hy n)->(jv l).length=4*l.length
 | [],_=>rfl
 | n::l,h=>by
  rw [EK (h n (by simp)),List.length_append,Wz (λm hm=>h m (by simp [hm])),show (yg n).length=4 from rfl,List.length_cons];omega
theorem Py: ∀ {l:List Int} {j:Nat},(∀ n∈l,Hy n)->(jv l).drop (4*j)=jv (l.drop j)
 | l,0,_=>rfl
 | [],j+1,_=>by simp [jv]
 | n::l,j+1,h=>by
  rw [EK (h n (by simp)),List.drop_succ_cons,<-Py (j:=j) (λm hm=>h m (by simp [hm])),show 4*(j+1)=(yg n).length+4*j by show _=4+_;omega,<-List.drop_drop,List.drop_left]
theorem R9 {l:List Int} {j:Nat} {n:Int} (h: ∀ n∈l,Hy n) (hj:l[j]? =some n):tk (jv l) j=(n,0):=by
 unfold tk;obtain ⟨hl,hn⟩:=List.getElem?_eq_some_iff.1 hj;rw [Py h,List.drop_eq_getElem_cons hl,hn,EK (h n (by rw [<-hn];exact List.getElem_mem hl))];exact acQ (h n (by rw [<-hn];exact List.getElem_mem hl)) _
theorem amG {e:Ev} (h:bE e=0):Hy e.kind/\Hy e.producer/\Hy e.id/\Hy e.body/\Hy e.aQ/\Hy e.hno:=by
 unfold bE at h;unfold Hy
 repeat' split at h
 all_goals first
  | exact absurd h (by decide)
  | (clear h;simp only [jU,Bool.and_eq_true,decide_eq_true_eq,not_and,Classical.not_not] at*;omega)
theorem agT {r:dM} (h:aM r=0): ∀ n∈fZ r,Hy n:=by
 unfold aM at h
 split at h
 ·cases h
 split at h
 ·cases h
 rename_i h1 h2
 simp only [jU,Bool.and_eq_true,decide_eq_true_eq,Bool.not_eq_false] at h1 h2;intro n hn;unfold fZ at hn;by_cases he:kG r.kind=true
 ·rw [if_pos he] at h hn;obtain ⟨g1,g2,g3,g4,g5,g6⟩:=amG h;simp only [List.cons_append,List.nil_append,List.mem_cons,List.not_mem_nil,or_false] at hn
  rcases hn with rfl | rfl | rfl | rfl | rfl | rfl | rfl | rfl | rfl | rfl
  any_goals assumption
  all_goals (unfold Hy;omega)
 rw [if_neg he] at hn;simp only [List.append_nil,List.mem_cons,List.not_mem_nil,or_false] at hn
 rcases hn with rfl | rfl | rfl | rfl
 all_goals (unfold Hy;omega)
theorem acR {r:dM} (h:aM r=0) (he: ¬ kG r.kind=true):r.ev=aS:=by
 unfold aM at h
 split at h
 ·cases h
 split at h
 ·cases h
 try rw [if_neg he] at h
 split at h
 ·assumption
 cases h
theorem agU {r:dM} (h:aM r=0):rD (jv (fZ r))=(r,0):=by
 have hr:=agT h;have h0:tk (jv (fZ r)) 0=(r.kind,0):=R9 hr rfl;have hm:kI (jv (fZ r))=(fZ r).length:=by
  unfold kI;rw [h0];by_cases he:kG r.kind=true
  ·rw [if_pos (show kG (r.kind,(0:Int)).1=true from he)];unfold fZ;rw [if_pos he];rfl
  rw [if_neg (show ¬ kG (r.kind,(0:Int)).1=true from he)];unfold fZ;rw [if_neg he];rfl
 have hz:xS (jv (fZ r)) (fZ r).length=0:=tH λj hj=>by rw [R9 hr (List.getElem?_eq_getElem hj)]
 have hto:mZ (jv (fZ r)) (fZ r).length=r:=by
  have hv: ∀ j n,(fZ r)[j]? =some n->ig (jv (fZ r)) (fZ r).length j=n:=λj n hj=>by
   unfold ig;rw [if_pos (List.getElem?_eq_some_iff.1 hj).1,R9 hr hj]
  have hw: ∀ j,(fZ r).length<=j->ig (jv (fZ r)) (fZ r).length j=0:=λj hj=>if_neg (by omega);unfold mZ;rw [hv 0 r.kind rfl,hv 1 r.queue rfl,hv 2 r.epoch rfl,hv 3 r.peer rfl];by_cases he:kG r.kind=true
  ·have hn:fZ r=[r.kind,r.queue,r.epoch,r.peer,r.ev.kind,r.ev.producer,r.ev.id,r.ev.body,r.ev.aQ,r.ev.hno]:=by unfold fZ;rw [if_pos he];rfl
   rw [hv 4 r.ev.kind (by rw [hn];rfl),hv 5 r.ev.producer (by rw [hn];rfl),hv 6 r.ev.id (by rw [hn];rfl),hv 7 r.ev.body (by rw [hn];rfl),hv 8 r.ev.aQ (by rw [hn];rfl),hv 9 r.ev.hno (by rw [hn];rfl)]
  have hn:(fZ r).length=4:=by unfold fZ;rw [if_neg he];rfl
  rw [hw 4 (by omega),hw 5 (by omega),hw 6 (by omega),hw 7 (by omega),hw 8 (by omega),hw 9 (by omega)];have:=acR h he;unfold aS at this;rw [<-this]
 unfold rD;rw [hm,if_neg (by rw [hz];simp),hto,if_neg (by rw [Wz hr,h];simp)]
theorem amH {r:dM} (h:aM r=0):mR r=(jv (fZ r),0):=by unfold mR;rw [if_neg (by simpa using h)]
def mV (r:dM):List UInt8:=jB (mR r).1
def dx (rs:List dM):List UInt8:=rs.flatMap mV
theorem kY (a b:List dM):dx (a++b)=dx a++dx b:=List.flatMap_append
theorem Pz (r:dM):6<=(mV r).length/\(mV r).length<=46:=by
 unfold mV;rw [tJ];have:=CQ r;omega
theorem LQ {p t:List UInt8} (hp:p.length<=65535) {k:Nat} (hk:2<=k):dh ((jB p).take k++t)=p.length:=by
 obtain ⟨k,rfl⟩: ∃ j,k=j+2:=⟨k-2,by omega⟩;unfold jB headed;simp only [List.cons_append,List.take_succ_cons,dh,UInt8.toNat_ofNat'];omega
theorem Q5 {r:dM} (h:aM r=0) (t:List UInt8):firstM (mV r++t)=(r,(mV r).length):=by
 have hl:=CQ r;have hfl:(mV r).length=(mR r).1.length+6:=tJ _;have hpay:dh (mV r++t)=(mR r).1.length:=by
  have:=LQ (p:=(mR r).1) (t:=t) (by omega) (k:=(mV r).length) (by omega);rwa [show List.take (mV r).length (jB (mR r).1)=mV r from List.take_length] at this
 have hlen:(mV r++t).length=(mR r).1.length+6+t.length:=by rw [List.length_append,hfl]
 have hpl:((mV r++t).drop 2).take (dh (mV r++t))=(mR r).1:=by
  rw [hpay];unfold mV jB headed;simp
 have hd:rD (mR r).1=(r,0):=by rw [amH h];exact agU h
 rw [N8 (by omega) (by rw [hpay];omega) (by rw [hpl,hd]) (by rw [hpl,hpay,<-hfl,List.take_left];rfl),hpl,hd,hpay,hfl]
theorem UQ {r:dM} {k:Nat} (hk:k< (mV r).length):(firstM ((mV r).take k)).2=0:=by
 have hl:=CQ r;have hfl:(mV r).length=(mR r).1.length+6:=tJ _;have h2:((mV r).take k).length=k:=by rw [List.length_take];omega
 by_cases hs:k<2
 ·rw [xX (by omega)];rfl
 have hpay:=LQ (p:=(mR r).1) (t:=[]) (by omega) (k:=k) (by omega);rw [List.append_nil] at hpay;have asq:dh ((mV r).take k)=(mR r).1.length:=hpay;rw [Jm (by omega) (by rw [h2,asq];omega)];rfl
theorem xw: ∀ {rs:List dM} {t:List UInt8},(∀ r∈rs,aM r=0)->(firstM t).2=0->bP (dx rs++t)=(rs,(dx rs).length)
 | [],t,_,ht=>FQ (by simpa [dx] using ht)
 | r::rs,t,h,ht=>by
  have e:dx (r::rs)++t=mV r++(dx rs++t):=by simp [dx,List.flatMap_cons]
  have hf:=Q5 (h r (by simp)) (dx rs++t);have hlen:=Pz r;rw [e,LH (by rw [hf];show ¬ (mV r).length=0;omega),hf];simp only [List.drop_left];rw [xw (λx hx=>h x (by simp [hx])) ht];simp [dx,List.flatMap_cons]
theorem wD:(firstM []).2=0:=by rw [xX (by simp)];rfl
theorem LU: ∀ (rs:List dM) (k:Nat),k<=(dx rs).length-> ∃ j t,(dx rs).take k=dx (rs.take j)++t/\(firstM t).2=0/\j<=rs.length
 | [],k,_=>⟨0,[],by simp [dx],wD,Nat.le_refl _⟩
 | r::rs,k,hk=>by
  have e:dx (r::rs)=mV r++dx rs:=by simp [dx,List.flatMap_cons]
  by_cases h:k< (mV r).length
  ·refine ⟨0,(mV r).take k,?_,UQ h,Nat.zero_le _⟩;rw [e,List.take_append_of_le_length (by omega)];simp [dx]
  rw [e,List.length_append] at hk;obtain ⟨j,t,h1,h2,h3⟩:=LU rs (k-(mV r).length) (by omega);refine ⟨j+1,t,?_,h2,by simp;omega⟩;rw [e,List.take_append,List.take_of_length_le (by omega),h1];simp [dx,List.flatMap_cons]
theorem LV {l:List UInt8} {s:Int} {r:dM} (h:(iU l s r).2.2=0):iU l s r=(l++mV r,s,0)/\aM r=0/\l.length+(mV r).length<=100000:=by
 unfold iU at h⊢
 split at h
 ·cases h
 split at h
 ·rename_i h2;exact absurd h h2
 split at h
 ·cases h
 rename_i h1 h2 h3
 rw [if_neg h1,if_neg h2,if_neg h3];refine ⟨rfl,?_,by show _+(jB (mR r).1).length<=_;omega⟩;unfold mR at h2
 split at h2
 ·exact Classical.not_not.1 h2
 rename_i h4;exact Classical.not_not.1 h4
end Go.Proofs.YtnhimdkpkmbhlaaGreatDoor
