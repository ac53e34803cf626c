import Derived.Test.YthhnonpehllibaaGreatDoorG2a93c
import Derived.Test.YthhnonpehllibaaGreatDoorG350bc
import Derived.Test.YthhnonpehllibaaGreatDoorG6b2c2
set_option maxRecDepth 100000
set_option maxHeartbeats 8000000
set_option linter.unusedSimpArgs false
set_option linter.unusedVariables false
namespace Go.Proofs.YthhnonpehllibaaGreatDoor
open ChangeShapes WideShapes RowKit
def pK (l:List UInt8):Int:=l.foldl (λs c=>s*256+(c.toNat:Int)) 0
theorem Zr (l:List UInt8) (c:UInt8):pK (l++[c])=pK l*256+c.toNat:=by simp [pK]
theorem ait: ∀ (l:List UInt8),l.length<=4->0<=pK l/\pK l<=4294967295
 | [],_=>by simp [pK]
 | [a],_=>by have:=u8_in a;simp [pK];omega
 | [a,b],_=>by have:=u8_in a;have:=u8_in b;simp [pK];omega
 | [a,b,c],_=>by have:=u8_in a;have:=u8_in b;have:=u8_in c;simp [pK];omega
 | [a,b,c,d],_=>by have:=u8_in a;have:=u8_in b;have:=u8_in c;have:=u8_in d;simp [pK];omega
 | _::_::_::_::_::_,h=>by simp at h
def Ce:dB×Nat:=(oV,0)
def cB (b:List UInt8):Nat:=match b with
 | x::y::_=>x.toNat*256+y.toNat
 | _=>0
def firstM (b:List UInt8):dB×Nat:=
 if b.length<2 then Ce else if b.length<cB b+6 then Ce else if pK ((b.drop (2+cB b)).take 4)≠zw (b.take (2+cB b)) then Ce
 else if (sK ((b.drop 2).take (cB b))).2≠0 then Ce else ((sK ((b.drop 2).take (cB b))).1,cB b+6)
section
variable {b:List UInt8}
theorem yT (h:b.length<2):firstM b=Ce:=if_pos h
theorem Kv (h: ¬ b.length<2) (h1:b.length<cB b+6):firstM b=Ce:=by unfold firstM;rw [if_neg h,if_pos h1]
theorem WE (h: ¬ b.length<2) (h1: ¬ b.length<cB b+6) (h2:pK ((b.drop (2+cB b)).take 4)≠zw (b.take (2+cB b))):firstM b=Ce:=by unfold firstM;rw [if_neg h,if_neg h1,if_pos h2]
theorem WG (h: ¬ b.length<2) (h1: ¬ b.length<cB b+6) (h2:pK ((b.drop (2+cB b)).take 4)=zw (b.take (2+cB b))) (h3:(sK ((b.drop 2).take (cB b))).2≠0):firstM b=Ce:=by
 unfold firstM;rw [if_neg h,if_neg h1,if_neg (by simpa using h2),if_pos h3]
theorem Nj (h: ¬ b.length<2) (h1: ¬ b.length<cB b+6) (h2:pK ((b.drop (2+cB b)).take 4)=zw (b.take (2+cB b))) (h3:(sK ((b.drop 2).take (cB b))).2=0):firstM b=((sK ((b.drop 2).take (cB b))).1,cB b+6):=by
 unfold firstM;rw [if_neg h,if_neg h1,if_neg (by simpa using h2),if_neg (by simpa using h3)]
theorem xE:(firstM b).2<=b.length:=by
 unfold firstM Ce
 split
 ·exact Nat.zero_le _
 split
 ·exact Nat.zero_le _
 split
 ·exact Nat.zero_le _
 split
 ·exact Nat.zero_le _
 simp;omega
theorem aon {x y:UInt8} (hx:b[0]? =some x) (hy:b[1]? =some y):cB b=x.toNat*256+y.toNat:=by
 match b,hx,hy with
 | x'::y'::r,hx,hy=>
  simp at hx hy;subst hx;subst hy;rfl
 | [_],_,hy=>simp at hy
end
def qb:Nat->List UInt8->List dB×Nat
 | 0,_=>([],0)
 | f+1,b=>if (firstM b).2=0 then ([],0) else ((firstM b).1::(qb f (b.drop (firstM b).2)).1,(firstM b).2+(qb f (b.drop (firstM b).2)).2)
theorem GX: ∀ (f g:Nat) (b:List UInt8),b.length<f->b.length<g->qb f b=qb g b
 | 0,_,b,h,_=>absurd h (by omega)
 | _,0,b,_,h=>absurd h (by omega)
 | f+1,g+1,b,hf,hg=>by
  unfold qb;by_cases h:(firstM b).2=0
  ·rw [if_pos h,if_pos h]
  rw [if_neg h,if_neg h,GX f g _ (by rw [List.length_drop];have:= @xE b;omega) (by rw [List.length_drop];have:= @xE b;omega)]
def bQ (b:List UInt8):List dB×Nat:=qb (b.length+1) b
theorem GY {b:List UInt8} (h:(firstM b).2=0):bQ b=([],0):=by unfold bQ qb;rw [if_pos h]
theorem Nk {b:List UInt8} (h: ¬ (firstM b).2=0):bQ b=((firstM b).1::(bQ (b.drop (firstM b).2)).1,(firstM b).2+(bQ (b.drop (firstM b).2)).2):=by
 unfold bQ;rw [qb,if_neg h,GX b.length ((b.drop (firstM b).2).length+1) _ (by rw [List.length_drop];have:= @xE b;omega) (by omega)]
theorem Nl: ∀ (f:Nat) (b:List UInt8),(qb f b).2<=b.length/\(qb f b).1.length<=b.length
 | 0,b=>by simp [qb]
 | f+1,b=>by
  unfold qb
  split
  ·simp
  rename_i h
  have h1:=Nl f (b.drop (firstM b).2);rw [List.length_drop] at h1;have h2:= @xE b;simp;omega
def uh (l:List UInt8) (s:Int):List dB×Nat×Int:=if cO l s=true then ((bQ l).1,(bQ l).2,0) else ([],0,6)
def dB.cells (r:dB):List Value:=[iV r.kind,iV r.queue,iV r.epoch,iV r.peer,iV r.ev.kind,iV r.ev.producer,iV r.ev.id,iV r.ev.body,iV r.ev.aO,iV r.ev.hno]
def aei (w:World) (r:List dB×Nat×Int) (e:Ending) (w':World):Prop:=
 ∃ A c,e= .returned (.tuple #[.slice A r.1.length c,iV (r.2.1:Int),iV r.2.2])/\St w.heap.size w w' [.own 124 10 (.slice A r.1.length c) r.1.length (r.1.flatMap dB.cells)]
def Lb (x:UInt8):List Value:=[.int .u8 x.toNat]
theorem Rv (l:List UInt8):byteCells l=l.flatMap Lb:=by
 induction l with
 | nil=>rfl
 | cons a l ih=>rw [List.flatMap_cons,<-ih];rfl
theorem ap4 {w:World} {B:Nat} {A:Option Addr} {n:Nat} {l:List UInt8} (h:Rd w B 1 A n (byteCells l)):Rd w B 1 A n (l.flatMap Lb):=Rv l▸h
theorem alm {w:World} {B:Nat} {A:Option Addr} {n:Nat} {l:List UInt8} (h:Rd w B 1 A n (l.flatMap Lb)):Rd w B 1 A n (byteCells l):=(Rv l).symm▸h
theorem acN {l:List UInt8}:(l.take 4).take 4=l.take 4:=by simp [List.take_take]
theorem Zt {l:List UInt8} {k:Nat} {x:UInt8} (h:l[k]? =some x):pK (l.take k)*256+(x.toNat:Int)=pK (l.take (k+1)):=by
 rw [List.take_add_one,h,<-Zr];rfl
def Zu (w:World) (r:dB×Nat) (e:Ending) (w':World):Prop:=e= .returned (.tuple #[r.1.val,iV (r.2:Int)])/\Below w.heap.size w w'
theorem Tp (A:Option Addr) (c:Nat) (b:List UInt8) (w:World) (h:Rd w w.heap.size 1 A b.length (byteCells b)) (hn:b.length<=c) (hcm:c<=9223372036854775807) (hb:b.length<=100000):
    Calls Tryz.prog 53 #[.slice A b.length c] w (Zu w (firstM b)):=by
 have S:=(St.start w).bV (ap4 h);refine gB 69 Tryz.func53 ?_;refine cw [0] ?_;refine zN 2 ?_;refine fF S wV ?_;intro b1 w2 S3;refine zN 8 ?_;by_cases h4:((b.length:Nat):Int)<2
 ·refine zN 7 ?_;refine sa 0 S3 jZ ?_;intro w5 S6;refine zN 6 ?_;exact ⟨by rw [yT (by omega)];rfl,S6.low⟩
 refine zN 7 ?_;refine fu S3 mixed (by kernel_rfl) ?_;refine zQ ?_;obtain ⟨b8,o9,rfl⟩:=Rd.addr (St.rd 1 S3 rfl) (by omega);obtain ⟨x10,Vf⟩:=L6 0 (St.rd 1 S3 rfl) (by omega);refine uv (λ_ _=>jh 0) ?_;refine uv (v:= .int .u8 ((x10).toNat:Int)) (λ_ QK=>(aj rfl rfl (ay Tryz.underlying5 rfl (Rd.XL (i:=0) (St.rd 1 QK rfl) (bg (enc:=Lb) (sz:=1) (λ_=>rfl) Vf rfl))))) ?_;refine uv (v:=iV ((x10).toNat:Int)) (λ_ _=>(FQ rfl rfl (OG (a:=x10) rfl (by kernel_rfl)))) ?_;have aGP:=u8_in x10;refine uv (v:=iV (((x10).toNat:Int)*256)) (λ_ _=>(aK rfl rfl rfl (acw rfl (by omega) (by omega)))) ?_;refine uv (v:=iV (2+(((x10).toNat:Int)*256))) (λ_ _=>gN) ?_;refine zQ ?_;obtain ⟨x19,ap5⟩:=L6 1 (St.rd 1 S3 rfl) (by omega);refine uv (λ_ _=>jh 1) ?_;refine uv (v:= .int .u8 ((x19).toNat:Int)) (λ_ FW=>(aj rfl rfl (ay Tryz.underlying5 rfl (Rd.XL (i:=0) (St.rd 1 FW rfl) (bg (enc:=Lb) (sz:=1) (λ_=>rfl) ap5 rfl))))) ?_;refine uv (v:=iV ((x19).toNat:Int)) (λ_ _=>(FQ rfl rfl (OG (a:=x19) rfl (by kernel_rfl)))) ?_;have aGQ:=u8_in x19;have aGR:=aon Vf ap5;have aGS:cB b<=65535:=by omega
 refine uv (v:=iV ((2+cB b:Nat):Int)) (λ_ _=>(aK rfl rfl rfl (by rw [show ((2+cB b:Nat):Int)=2+(((x10).toNat:Int)*256)+((x19).toNat:Int) by omega];exact yN (by omega) (by omega)))) ?_;refine zQ ?_;refine eO λYb sD=>?_;refine zN 7 ?_;refine vv (v:=iV (((2+cB b)+4:Nat):Int)) gN ?_;by_cases h30:((b.length:Nat):Int)< (((2+cB b)+4:Nat):Int)
 ·refine zN 7 ?_;refine sa 0 sD jZ ?_;intro Zv o8;refine zN 6 ?_;exact ⟨by rw [Kv (by omega) (by omega)];rfl,o8.low⟩
 refine zN 17 ?_;refine vv (v:=iV (((2+cB b)+4:Nat):Int)) gN ?_;refine zQ ?_;refine vv (v:=iV (((2+cB b)+4:Nat):Int)) gN ?_;obtain ⟨A33,ayc,aln⟩:=M7 (b:=b) (c:=c) (lo:=(some (iV ((2+cB b:Nat):Int)))) (hi:=(some (iV (((2+cB b)+4:Nat):Int)))) (mx:=(some (iV (((2+cB b)+4:Nat):Int)))) (l:=2+cB b) (k:=2+cB b+4) (q:=2+cB b+4) (m:=4) (c':=4) Tryz.underlying81 U2 (acv (2+cB b) (2+cB b+4) (2+cB b+4) rfl rfl rfl (by omega) (by omega) (by omega)) (alm (show Rd _ _ _ _ _ _ from sD.all 1 _ rfl)) (by omega) (by omega) (by omega) (by omega) (by omega)
 replace aln:Rd _ _ _ _ _ (((b.drop (2+cB b)).take 4).flatMap Lb):=ap4 aln
 have nT:=sD.bV aln;refine vv (v:= .slice A33 4 4) (jE rfl rfl (iW rfl) (iW rfl) (iW rfl) (ayc _)) ?_;refine zN 5 ?_;refine dW (X:=Nat) (λxv=>[(0,.slice (some ⟨b8,o9,none⟩) b.length c),(2,.pointer (some ⟨b1,0,none⟩)),(3,iV 0),(4,iV ((2+cB b:Nat):Int)),(37,.slice A33 4 4),(38,iV 4),(5,iV (pK (((b.drop (2+cB b)).take 4).take xv))),(39,iV ((xv:Nat):Int))]) (λxv wr=>(xv<=4)/\St w.heap.size w wr [.rd 1 A33 4 (((b.drop (2+cB b)).take 4).flatMap Lb),.blk b1 #[iV 0,iV 0,iV 0,iV 0,iV 0,iV 0,iV 0,iV 0,iV 0,iV 0] 124,.rd 1 (some ⟨b8,o9,none⟩) b.length ((b).flatMap Lb)]) (λxv=>4-xv) (0) ?_ ?_ ?_
 ·exact ⟨Nat.zero_le _,nT⟩
 ·exact ⟨rfl,rfl,rfl,rfl,rfl,rfl,rfl,rfl,trivial⟩
 rintro k Zw ⟨QL,tJ⟩
 try dsimp only at QL tJ
 refine bC (l':=[(0,.slice (some ⟨b8,o9,none⟩) b.length c),(2,.pointer (some ⟨b1,0,none⟩)),(3,iV 0),(4,iV ((2+cB b:Nat):Int)),(37,.slice A33 4 4),(38,iV 4),(5,iV (pK (((b.drop (2+cB b)).take 4).take k))),(39,iV ((k:Nat):Int))]) ⟨rfl,rfl,rfl,rfl,rfl,rfl,rfl,rfl,trivial⟩ (aQ (aC ?_));by_cases h40:((k:Nat):Int)<4
 ·refine zN 11 ?_;obtain ⟨b41,o42,rfl⟩:=Rd.addr (St.rd 0 tJ rfl) (by omega);obtain ⟨x43,ap7⟩:=L6 k (St.rd 0 tJ rfl) (by omega);refine vv (jh k) ?_;refine vv (aj rfl rfl (ay Tryz.underlying5 rfl (Rd.XL (i:=0) (St.rd 0 tJ rfl) (bg (enc:=Lb) (sz:=1) (λ_=>rfl) ap7 rfl)))) ?_;refine zN 5 ?_;have aGT:=ait (((b.drop (2+cB b)).take 4).take k) (by simp;omega);refine vv (v:=iV (pK (((b.drop (2+cB b)).take 4).take k)*256)) (aK rfl rfl rfl (acw rfl (by omega) (by omega))) ?_;refine zQ ?_;refine vv (v:=iV ((x43).toNat:Int)) (FQ rfl rfl (OG (a:=x43) rfl (by kernel_rfl))) ?_;have aGU:=u8_in x43;refine vv (v:=iV (pK (((b.drop (2+cB b)).take 4).take k)*256+((x43).toNat:Int))) (aK rfl rfl rfl (asY rfl (by omega) (by omega) (by omega) (by omega))) ?_;refine zN 5 ?_;refine vv (v:=iV ((k+1:Nat):Int)) gN ?_;refine zN 2 ?_;refine aS (k+1) ?_ ⟨rfl,rfl,rfl,rfl,rfl,rfl,(amZ (Zt ap7)),rfl,trivial⟩ (by first | omega | (dsimp only;omega));exact ⟨(by omega),tJ⟩
 refine zN 16 ?_;obtain ⟨Mc,ayd,alo⟩:=M7 (b:=b) (c:=c) (lo:=none) (hi:=(some (iV ((2+cB b:Nat):Int)))) (mx:=none) (l:=0) (k:=2+cB b) (q:=c) (m:=2+cB b) (c':=c) Tryz.underlying81 U2 (awX (2+cB b) rfl (by omega)) (alm (show Rd _ _ _ _ _ _ from tJ.all 2 _ rfl)) (by omega) (by omega) (by omega) (by omega) (by omega)
 replace alo:Rd _ _ _ _ _ (byteCells (b.take (2+cB b))):=alo
 have vO:=tJ.bV alo;refine vv (v:= .slice Mc (2+cB b) c) (jE rfl rfl l8 (iW rfl) l8 (ayd _)) ?_;refine dI atm (MP _ _ _ (b.take (2+cB b)) _ (St.rd 0 vO rfl) (by omega)) ?_;rintro _ Zm ⟨rfl,q53,rfl⟩;refine ⟨_,rfl,?_⟩;have oZ:=vO.drewN q53;obtain rfl:k=4:=by omega
 by_cases h54:pK ((b.drop (2+cB b)).take 4)=zw (b.take (2+cB b))
 ·refine vv (v:= .bool false) (aK rfl rfl rfl (Ib (by rw [acN];exact h54))) ?_;refine zN 9 ?_;obtain ⟨A55,aye,alp⟩:=M7 (b:=b) (c:=c) (lo:=(some (iV 2))) (hi:=(some (iV ((2+cB b:Nat):Int)))) (mx:=none) (l:=2) (k:=2+cB b) (q:=c) (m:=cB b) (c':=c-2) Tryz.underlying81 U2 (U1 2 (2+cB b) rfl rfl (by omega) (by omega)) (alm (show Rd _ _ _ _ _ _ from oZ.all 3 _ rfl)) (by omega) (by omega) (by omega) (by omega) (by omega)
  replace alp:Rd _ _ _ _ _ (byteCells ((b.drop 2).take (cB b))):=alp
  have CG:=oZ.bV alp;refine vv (v:= .slice A55 (cB b) (c-2)) (jE rfl rfl (iW rfl) (iW rfl) l8 (aye _)) ?_;refine cab atn CG (Pw A55 (cB b) (c-2) ((b.drop 2).take (cB b)) _ (St.rd 0 CG rfl) (by omega) (by unfold maxLen;omega)) ?_;intro w59 Uv;refine zN 3 ?_;refine fF Uv wV ?_;intro b62 w63 S64;refine sa 0 S64 jZ ?_;intro w65 FY;refine zN 7 ?_;by_cases AV:(sK ((b.drop 2).take (cB b))).2=0
  ·refine zN 10 ?_;refine vv (v:=iV (((2+cB b)+4:Nat):Int)) gN ?_;refine sa 4 FY jZ ?_;intro w68 vC;refine zN 5 ?_;exact ⟨by rw [Nj (by omega) (by omega) h54 AV];exact congrArg Ending.returned (by show Value.tuple #[_,iV _]=Value.tuple #[_,iV _];rw [show ((2+cB b+4:Nat):Int)=((cB b+6:Nat):Int) by omega];rfl),vC.low⟩
  refine zN 7 ?_;refine sa 4 FY jZ ?_;intro Zo rE;refine zN 6 ?_;exact ⟨by rw [WG (by omega) (by omega) h54 AV];rfl,rE.low⟩
 refine vv (v:= .bool true) (aK rfl rfl rfl (OC (by rw [acN];exact h54))) ?_;refine zN 6 ?_;refine sa 2 oZ jZ ?_;intro w72 tH;refine zN 6 ?_;exact ⟨by rw [WE (by omega) (by omega) h54];rfl,tH.low⟩
theorem Nn {w:World} {base:Nat} {e:TypeId} {size:Nat} {A:Option Addr} {n c:Nat} {xs:List Value} (h:w.ownsRow base e size (.slice A n c) n xs):n<=c/\c<=maxLen:=by
 obtain ⟨A',c',e1,h1,h2⟩:=lW h
 cases e1;exact ⟨h1,h2⟩
theorem PU {l:List UInt8}:bQ l=([]++(bQ (l.drop 0)).1,0+(bQ (l.drop 0)).2):=by simp
theorem Tq {l:List UInt8} {acc:List dB} {p:Nat} (h:bQ l=(acc++(bQ (l.drop p)).1,p+(bQ (l.drop p)).2)) (h1: ¬ (firstM (l.drop p)).2=0):
  bQ l=(acc++[(firstM (l.drop p)).1]++(bQ (l.drop (p+(firstM (l.drop p)).2))).1,p+(firstM (l.drop p)).2+(bQ (l.drop (p+(firstM (l.drop p)).2))).2):=by
 rw [h,Nk h1,List.drop_drop,List.append_assoc,Nat.add_assoc];rfl
theorem Zx {l:List UInt8} {s:Int} {acc:List dB} {p:Nat} (hm:cO l s=true) (h:bQ l=(acc++(bQ (l.drop p)).1,p+(bQ (l.drop p)).2)) (h1:(firstM (l.drop p)).2=0):uh l s=(acc,p,0):=by
 unfold uh;rw [if_pos hm,h,GY h1];simp
theorem CU (A:Option Addr) (c:Nat) (l:List UInt8) (s:Int) (w:World) (h:Rd w w.heap.size 1 A l.length (byteCells l)):
    Calls Tryz.prog 35 #[.agg #[.slice A l.length c,iV s]] w (aei w (uh l s)):=by
 have S:=(St.start w).bV h;refine gB 37 Tryz.func35 ?_;refine cw [0] ?_;refine zN 2 ?_;refine iK S ?_;intro b1 w2 S3;refine zN 8 ?_
 rcases zJ l s with ⟨ho,hm⟩ | ⟨ho,hm⟩
 ·have HO:=λw h=>kX A l.length c l s w h;rw [ho] at HO;refine dI abR (HO _ (St.rd 1 S3 rfl)) ?_;rintro _ w8 ⟨A4,c5,rfl,hb6,hO7⟩;refine ⟨_,rfl,?_⟩;have S9:=S3.tQ hb6 hO7;clear HO hb6 hO7 S3;change St _ _ _ [.own 5 1 (.slice A4 l.length c5) l.length (byteCells l),.blk b1 #[.slice A l.length c,iV s] 83,.rd 1 A l.length (byteCells l)] at S9;have hcap:=Nn (S9.own 0 rfl);unfold maxLen at hcap;have hlen:l.length<=100000:=(oh hm).1;refine zN 3 ?_;refine fF S9 yP ?_;intro b10 Jd mF;refine sa 0 mF fB ?_;intro Dr kg;refine zN 15 ?_;have gI:=kg.nil 124 10;refine zN 9 ?_;have kQ:=gI.aR [4];refine dW (X:=(List dB)×Nat×Nat×(Option Addr)×Nat) (λxv=>[(2,.slice none 0 0),(3,iV 0),(4,iV 0),(5,.pointer (some ⟨b10,0,none⟩)),(7,.slice xv.2.2.2.1 xv.2.2.1 xv.2.2.2.2),(8,iV ((xv.2.1:Nat):Int))]) (λxv wr=>(bQ l=(xv.1++(bQ (l.drop xv.2.1)).1,xv.2.1+(bQ (l.drop xv.2.1)).2))/\(xv.2.1<=l.length)/\(xv.2.2.1<=xv.2.1)/\(xv.2.2.1=xv.1.length)/\St w.heap.size w wr [.own 124 10 (.slice xv.2.2.2.1 xv.2.2.1 xv.2.2.2.2) xv.2.2.1 ((xv.1).flatMap dB.cells),.blk b10 #[.slice A4 l.length c5,iV s] 83,.own 5 1 (.slice A4 l.length c5) l.length (byteCells l),.blk b1 #[.slice A l.length c,iV s] 83]) (λxv=>l.length-xv.2.1) ([],0,0,none,0) ?_ ?_ ?_
  ·exact ⟨PU,Nat.zero_le _,Nat.le_refl _,rfl,kQ⟩
  ·exact ⟨rfl,rfl,rfl,rfl,rfl,rfl,trivial⟩
  rintro ⟨acc,p,m,A9,c9⟩ Ku ⟨alq,ayf,hi21,hi22,jc⟩
  try dsimp only at alq ayf hi21 hi22 jc
  refine bC (l':=[(2,.slice none 0 0),(3,iV 0),(4,iV 0),(5,.pointer (some ⟨b10,0,none⟩)),(7,.slice A9 m c9),(8,iV ((p:Nat):Int))]) ⟨rfl,rfl,rfl,rfl,rfl,rfl,trivial⟩ (DY (aQ (aC (vv (vN 0 XQ) ?_))));refine zN 2 ?_;obtain ⟨A23,ayg,aqb⟩:=M7 (b:=l) (c:=c5) (lo:=(some (iV ((p:Nat):Int)))) (hi:=none) (mx:=none) (l:=p) (k:=l.length) (q:=c5) (m:=(l.drop p).length) (c':=c5-p) Tryz.underlying81 U2 (afP p rfl (by omega)) (St.ord 2 jc rfl) (by omega) (by omega) (by omega) List.length_drop.symm rfl;rw [List.take_length] at aqb;refine vv (v:= .slice A23 ((l.drop p).length) (c5-p)) (jE rfl rfl (iW rfl) l8 l8 (ayg _)) ?_;refine dI ate (Tp A23 (c5-p) (l.drop p) _ aqb (by rw [List.length_drop];omega) (by omega) (by rw [List.length_drop];omega)) ?_;rintro _ Nh ⟨rfl,afX⟩;refine ⟨_,rfl,?_⟩;have tF:=jc.on afX;clear afX jc;have hfl:= @xE (l.drop p);rw [List.length_drop] at hfl;refine zN 3 ?_;refine fF tF wV ?_;intro b29 Ru kU;refine sa 0 kU jZ ?_;intro w32 qm;refine zN 7 ?_;by_cases h34:(((firstM (l.drop p)).2:Nat):Int)=0
  ·refine zN 19 ?_;have sG:=qm.aR [4,3,2,0];have hz:uh l s=(acc,p,0):=Zx hm alq (by omega);rw [hz];subst hi22;exact ⟨_,_,rfl,sG⟩
  refine zN 10 ?_;refine Zc qm ?_;intro uL Zw tJ;refine dY (news:=[iV ((firstM (l.drop p)).1.kind),iV ((firstM (l.drop p)).1.queue),iV ((firstM (l.drop p)).1.epoch),iV ((firstM (l.drop p)).1.peer),iV ((firstM (l.drop p)).1.ev.kind),iV ((firstM (l.drop p)).1.ev.producer),iV ((firstM (l.drop p)).1.ev.id),iV ((firstM (l.drop p)).1.ev.body),iV ((firstM (l.drop p)).1.ev.aO),iV ((firstM (l.drop p)).1.ev.hno)]) (xs':=(acc++[(firstM (l.drop p)).1]).flatMap dB.cells) 2 tJ (wn rfl) rfl rfl rfl rfl rfl rfl (St.lV (xs:=[iV ((firstM (l.drop p)).1.kind),iV ((firstM (l.drop p)).1.queue),iV ((firstM (l.drop p)).1.epoch),iV ((firstM (l.drop p)).1.peer),iV ((firstM (l.drop p)).1.ev.kind),iV ((firstM (l.drop p)).1.ev.producer),iV ((firstM (l.drop p)).1.ev.id),iV ((firstM (l.drop p)).1.ev.body),iV ((firstM (l.drop p)).1.ev.aO),iV ((firstM (l.drop p)).1.ev.hno)]) 0 tJ rfl rfl rfl) Tryz.underlying112 OJ rfl (by decide) (bX rfl) (by simp only [maxLen];omega) (by omega) (jM (enc:=dB.cells) rfl rfl) ?_;intro GZ c40 w41 aGV aGW pz;refine zN 6 ?_;refine vv (v:=iV ((p+((firstM (l.drop p)).2):Nat):Int)) gN ?_;refine zN 3 ?_;have oD:=pz.aR [1,0];refine aS (acc++[(firstM (l.drop p)).1],p+(firstM (l.drop p)).2,m+1,GZ,c40) ?_ ⟨rfl,rfl,rfl,rfl,rfl,rfl,trivial⟩ (by first | omega | (dsimp only;omega));exact ⟨(Tq alq (by omega)),(by dsimp only;omega),(by dsimp only;omega),(by dsimp only;simp [hi22]),oD⟩
 have HO:=λw h=>kX A l.length c l s w h;rw [ho] at HO;refine dI abR (HO _ (St.rd 1 S3 rfl)) ?_;rintro _ Uu ⟨A46,c47,rfl,hb48,aqc⟩;refine ⟨_,rfl,?_⟩;have tZ:=S3.tQ hb48 aqc;clear HO hb48 aqc S3;refine zN 3 ?_;refine fF tZ yP ?_;intro b52 w53 mG;refine sa 0 mG fB ?_;intro w55 G6;refine zN 21 ?_;have qH:=G6.aR [3,2,1,0];rw [show uh l s=([],0,6) from if_neg (by rw [hm];simp)];exact ⟨none,0,rfl,qH.nil 124 10⟩
theorem aiu {l:List UInt8} {s:Int} (h:cO l s=true):Ht l s=(l,s,true):=by
 rcases zJ l s with ⟨h1,_⟩ | ⟨_,h1⟩
 ·exact h1
 rw [h] at h1;cases h1
def jD (l:List UInt8) (s:Int):List UInt8×Int×Int:=if cO l s=true then (l.take (bQ l).2,min s (bQ l).2,0) else ([],0,6)
def aiv (w:World) (r:List UInt8×Int×Int) (e:Ending) (w':World):Prop:=
 ∃ A c,e= .returned (.tuple #[.agg #[.slice A r.1.length c,iV r.2.1],iV r.2.2])/\St w.heap.size w w' [.cu 1 A r.1.length (byteCells r.1)]
theorem PV (A:Option Addr) (c:Nat) (l:List UInt8) (s:Int) (w:World) (h:Rd w w.heap.size 1 A l.length (byteCells l)):
    Calls Tryz.prog 34 #[.agg #[.slice A l.length c,iV s]] w (aiv w (jD l s)):=by
 have S:=(St.start w).bV h;refine gB 34 Tryz.func34 ?_;refine cw [0] ?_;refine zN 2 ?_;refine iK S ?_;intro b1 w2 S3;refine fF S3 yP ?_;intro b4 w5 S6;refine zN 6 ?_;have hle:=Nl (l.length+1) l;rw [<-show bQ l=qb (l.length+1) l from rfl] at hle
 cases hm:cO l s
 ·have HR:=λw h=>CU A c l s w h;rw [show uh l s=([],0,6) from if_neg (by rw [hm];simp)] at HR;refine dI ala (HR _ (St.rd 2 S6 rfl)) ?_;rintro _ w9 ⟨A7,c8,rfl,T11⟩;refine ⟨_,rfl,?_⟩;have oC:=S6.ext T11 rfl;change St _ _ _ [.own 124 10 (.slice A7 (([]:List dB).length) c8) (([]:List dB).length) ((([]:List dB)).flatMap dB.cells),_,_,_] at oC;refine zN 21 ?_;refine sa 1 oC fB ?_;intro Zl wu;refine zN 6 ?_;have kg:=wu.aR [3,2,1,0];rw [show jD l s=([],0,6) from if_neg (by rw [hm];simp)];exact ⟨none,0,rfl,aF kg⟩
 have HR:=λw h=>CU A c l s w h;rw [show uh l s=((bQ l).1,(bQ l).2,0) from if_pos hm] at HR;have hlen:l.length<=100000:=(oh hm).1;refine dI ala (HR _ (St.rd 2 S6 rfl)) ?_;rintro _ Ku ⟨A15,c16,rfl,T19⟩;refine ⟨_,rfl,?_⟩;have jc:=S6.ext T19 rfl;change St _ _ _ [.own 124 10 (.slice A15 ((bQ l).1.length) c16) ((bQ l).1.length) (((bQ l).1).flatMap dB.cells),_,_,_] at jc;refine zN 8 ?_;refine Um (vv (v:=iV 0) ym ?_);refine vv atA ?_;refine zN 8 ?_;have HO:=λw h=>kX A l.length c l s w h;rw [aiu hm] at HO;refine dI abR (HO _ (St.rd 3 jc rfl)) ?_;rintro _ Md ⟨A20,c21,rfl,Zy,aqf⟩;refine ⟨_,rfl,?_⟩;have jv:=jc.tQ Zy aqf;clear HO Zy aqf jc;change St _ _ _ [.own 5 1 (.slice A20 l.length c21) l.length (byteCells l),.own 124 10 (.slice A15 ((bQ l).1.length) c16) ((bQ l).1.length) (((bQ l).1).flatMap dB.cells),.blk b4 #[.slice none 0 0,iV 0] 83,.blk b1 #[.slice A l.length c,iV s] 83,.rd 1 A l.length (byteCells l)] at jv;have hcap:=Nn (jv.own 0 rfl);unfold maxLen at hcap;refine zN 3 ?_;refine fF jv yP ?_;intro Zq Ni rF;refine sa 0 rF fB ?_;intro Zz sH;refine zN 4 ?_;have kU:=sH.drew;refine fC 12 10 kU [] ?_;iterate 4 refine gM ?_
 obtain ⟨A36,ayh,ayi,ayj⟩:=ahn (b:=l) (A:=A20) (c:=c21) (lo:=none) (hi:=some (iV (((bQ l).2:Nat):Int))) (mx:=some (iV (((bQ l).2:Nat):Int))) (l:=0) (k:=(bQ l).2) (q:=(bQ l).2) (m:=(bQ l).2) (c':=(bQ l).2) Tryz.underlying81 U2 (abO ((bQ l).2) ((bQ l).2) rfl rfl (Nat.le_refl _) (by omega)) (by omega) (by omega) (by omega) rfl rfl;refine gk (v:= .slice A36 ((bQ l).2) ((bQ l).2)) 4 rfl kU (λ_ _=>(jE rfl rfl l8 (iW rfl) (iW rfl) (ayh _))) ?_;iterate 3 refine gM ?_
 refine Dm (v:=iV (min s ((((bQ l).2:Nat):Int)))) (i:=8) (m:=3) rfl (by kernel_rfl) (by kernel_rfl) (by kernel_rfl) rfl (by kernel_rfl) rfl kU rfl (wn rfl) rfl rfl (λ_ _=>(qC (vs:=[iV s,iV (((bQ l).2:Nat):Int)]) rfl ⟨rfl,rfl,trivial⟩ λ_=>ajL)) ?_;refine Dm (v:= .agg #[.slice A36 ((bQ l).2) ((bQ l).2),iV (min s ((((bQ l).2:Nat):Int)))]) (i:=9) (m:=2) rfl (by kernel_rfl) (by kernel_rfl) (by kernel_rfl) rfl (by kernel_rfl) rfl kU rfl (wn rfl) rfl rfl (λ_ _=>(Dk (vs:=[(0,.slice A36 ((bQ l).2) ((bQ l).2)),(1,iV (min s ((((bQ l).2:Nat):Int))))]) rfl ⟨rfl,rfl,rfl,rfl,trivial⟩ (by kernel_rfl))) ?_;refine eD (by kernel_rfl) rfl rfl rfl ?_;refine sa 3 kU fB ?_;intro Yi yU;refine zN 2 ?_;refine iU ?_;refine zN 3 ?_;have wo:=yU.seal 1 rfl (ayi _ _ (St.ord 1 yU rfl)) (λa h=>ayj a h);have vD:=wo.aR [5,4,3,2,0];have hlt:(l.take (bQ l).2).length=(bQ l).2:=by rw [List.length_take];omega
 rw [show jD l s=(l.take (bQ l).2,min s (bQ l).2,0) from if_pos hm];exact ⟨A36,(bQ l).2,by rw [hlt];rfl,by rw [hlt];exact vD⟩
theorem Ea {a:UInt8} {n:Int} (h:n=a.toNat):UInt8.ofNat n.toNat=a:=by
 subst h;simp
theorem ZA {a b c d:UInt8} {n:Int} (h:n=16777216*(a.toNat:Int)+65536*(b.toNat:Int)+256*(c.toNat:Int)+(d.toNat:Int)):za n=[a,b,c,d]:=by
 have:=u8_in a;have:=u8_in b;have:=u8_in c;have:=u8_in d;unfold za;rw [Ea (a:=a) (by omega),Ea (a:=b) (by omega),Ea (a:=c) (by omega),Ea (a:=d) (by omega)]
theorem Np {a b c d:UInt8}:pK [a,b,c,d]=16777216*(a.toNat:Int)+65536*(b.toNat:Int)+256*(c.toNat:Int)+(d.toNat:Int):=by
 simp [pK];omega
theorem aej {q:List UInt8} {s:Int} (hq:q.length=4) (h0:0<=s) (h1:s<=4294967295):pK q=s↔za s=q:=by
 match q,hq with
 | [a,b,c,d],_=>
  constructor
  ·intro h;rw [Np] at h;exact ZA h.symm
  intro h;have ha:=u8_in a;have hb:=u8_in b;have hc:=u8_in c;have hd:=u8_in d;unfold za at h;simp only [List.cons.injEq,and_true] at h;obtain ⟨e1,e2,e3,e4⟩:=h;subst e1;subst e2;subst e3;subst e4;rw [Np];simp only [UInt8.toNat_ofNat'];omega
section
variable {b:List UInt8}
theorem WH (h: ¬ b.length<2) (h1: ¬ b.length<cB b+6):headed ((b.drop 2).take (cB b))=b.take (2+cB b):=by
 match b,h,h1 with
 | x::y::r,_,h1=>
  have e:cB (x::y::r)=x.toNat*256+y.toNat:=rfl;have hx:=x.toNat_lt;have hy:=y.toNat_lt;have hl:((List.drop 2 (x::y::r)).take (cB (x::y::r))).length=cB (x::y::r):=by
   rw [List.length_take,List.length_drop];omega
  unfold headed;rw [hl,show UInt8.ofNat (cB (x::y::r) / 256)=x by rw [e,show (x.toNat*256+y.toNat) / 256=x.toNat by omega];simp,
   show UInt8.ofNat (cB (x::y::r) % 256)=y by rw [e,show (x.toNat*256+y.toNat) % 256=y.toNat by omega];simp]
  rw [Nat.add_comm 2];rfl
 | [],h,_=>simp at h
 | [_],h,_=>simp at h
theorem ZB (h: ¬ b.length<2) (h1: ¬ b.length<cB b+6):pK ((b.drop (2+cB b)).take 4)=zw (b.take (2+cB b))↔jF ((b.drop 2).take (cB b))=b.take (cB b+6):=by
 unfold jF;rw [WH h h1,show cB b+6=(2+cB b)+4 by omega,List.take_add (i:=2+cB b) (j:=4),List.append_cancel_left_eq];obtain ⟨s0,s1⟩:=Ko (b.take (2+cB b));exact aej (by rw [List.length_take,List.length_drop];omega) s0 (by omega)
theorem PX (h: ¬ b.length<2) (h1: ¬ b.length<cB b+6) (h3:(sK ((b.drop 2).take (cB b))).2=0) (hf:jF ((b.drop 2).take (cB b))=b.take (cB b+6)):firstM b=((sK ((b.drop 2).take (cB b))).1,cB b+6):=
 Nj h h1 ((ZB h h1).2 hf) h3
end
def Jf (n:Int):Prop:=0<=n/\n<=2147483647
theorem aiw {n:Int} (h:Jf n):(qy n).1=za n:=by unfold qy;unfold Jf at h;rw [if_pos h]
theorem aek {n:Int} (h:Jf n) (t:List UInt8):nX (za n++t)=(n,0):=by
 obtain ⟨h0,h1⟩:=h;unfold za nX;simp only [List.cons_append,List.nil_append,UInt8.toNat_ofNat'];rw [if_neg (by omega)];simp only [Prod.mk.injEq,and_true];omega
theorem FZ {n:Int} {l:List Int} (h:Jf n):jC (n::l)=za n++jC l:=by
 show (n::l).flatMap _=_
 rw [List.flatMap_cons,aiw h];rfl
theorem Yj: ∀ {l:List Int},(∀ n∈l,Jf n)->(jC l).length=4*l.length
 | [],_=>rfl
 | n::l,h=>by
  rw [FZ (h n (by simp)),List.length_append,Yj (λm hm=>h m (by simp [hm])),show (za n).length=4 from rfl,List.length_cons];omega
theorem Rw: ∀ {l:List Int} {j:Nat},(∀ n∈l,Jf n)->(jC l).drop (4*j)=jC (l.drop j)
 | l,0,_=>rfl
 | [],j+1,_=>by simp [jC]
 | n::l,j+1,h=>by
  rw [FZ (h n (by simp)),List.drop_succ_cons,<-Rw (j:=j) (λm hm=>h m (by simp [hm])),show 4*(j+1)=(za n).length+4*j by show _=4+_;omega,<-List.drop_drop,List.drop_left]
theorem Uw {l:List Int} {j:Nat} {n:Int} (h: ∀ n∈l,Jf n) (hj:l[j]? =some n):tk (jC l) j=(n,0):=by
 unfold tk;obtain ⟨hl,hn⟩:=List.getElem?_eq_some_iff.1 hj;rw [Rw h,List.drop_eq_getElem_cons hl,hn,FZ (h n (by rw [<-hn];exact List.getElem_mem hl))];exact aek (h n (by rw [<-hn];exact List.getElem_mem hl)) _
theorem aot {e:Ev} (h:bq e=0):Jf e.kind/\Jf e.producer/\Jf e.id/\Jf e.body/\Jf e.aO/\Jf e.hno:=by
 unfold bq at h;unfold Jf
 repeat' split at h
 all_goals first
  | exact absurd h (by decide)
  | (clear h;simp only [jU,Bool.and_eq_true,decide_eq_true_eq,not_and,Classical.not_not] at*;omega)
theorem aix {r:dB} (h:aL r=0): ∀ n∈fZ r,Jf n:=by
 unfold aL at h
 split at h
 ·cases h
 split at h
 ·cases h
 rename_i h1 h2
 simp only [jU,Bool.and_eq_true,decide_eq_true_eq,Bool.not_eq_false] at h1 h2;intro n hn;unfold fZ at hn;by_cases he:jX r.kind=true
 ·rw [if_pos he] at h hn;obtain ⟨g1,g2,g3,g4,g5,g6⟩:=aot h;simp only [List.cons_append,List.nil_append,List.mem_cons,List.not_mem_nil,or_false] at hn
  rcases hn with rfl | rfl | rfl | rfl | rfl | rfl | rfl | rfl | rfl | rfl
  any_goals assumption
  all_goals (unfold Jf;omega)
 rw [if_neg he] at hn;simp only [List.append_nil,List.mem_cons,List.not_mem_nil,or_false] at hn
 rcases hn with rfl | rfl | rfl | rfl
 all_goals (unfold Jf;omega)
theorem ael {r:dB} (h:aL r=0) (he: ¬ jX r.kind=true):r.ev=aP:=by
 unfold aL at h
 split at h
 ·cases h
 split at h
 ·cases h
 try rw [if_neg he] at h
 split at h
 ·assumption
 cases h
theorem aiy {r:dB} (h:aL r=0):sK (jC (fZ r))=(r,0):=by
 have hr:=aix h;have h0:tk (jC (fZ r)) 0=(r.kind,0):=Uw hr rfl;have hm:kJ (jC (fZ r))=(fZ r).length:=by
  unfold kJ;rw [h0];by_cases he:jX r.kind=true
  ·rw [if_pos (show jX (r.kind,(0:Int)).1=true from he)];unfold fZ;rw [if_pos he];rfl
  rw [if_neg (show ¬ jX (r.kind,(0:Int)).1=true from he)];unfold fZ;rw [if_neg he];rfl
 have hz:yM (jC (fZ r)) (fZ r).length=0:=uI λj hj=>by rw [Uw hr (List.getElem?_eq_getElem hj)]
 have hto:nD (jC (fZ r)) (fZ r).length=r:=by
  have hv: ∀ j n,(fZ r)[j]? =some n->iF (jC (fZ r)) (fZ r).length j=n:=λj n hj=>by
   unfold iF;rw [if_pos (List.getElem?_eq_some_iff.1 hj).1,Uw hr hj]
  have hw: ∀ j,(fZ r).length<=j->iF (jC (fZ r)) (fZ r).length j=0:=λj hj=>if_neg (by omega);unfold nD;rw [hv 0 r.kind rfl,hv 1 r.queue rfl,hv 2 r.epoch rfl,hv 3 r.peer rfl];by_cases he:jX r.kind=true
  ·have hn:fZ r=[r.kind,r.queue,r.epoch,r.peer,r.ev.kind,r.ev.producer,r.ev.id,r.ev.body,r.ev.aO,r.ev.hno]:=by unfold fZ;rw [if_pos he];rfl
   rw [hv 4 r.ev.kind (by rw [hn];rfl),hv 5 r.ev.producer (by rw [hn];rfl),hv 6 r.ev.id (by rw [hn];rfl),hv 7 r.ev.body (by rw [hn];rfl),hv 8 r.ev.aO (by rw [hn];rfl),hv 9 r.ev.hno (by rw [hn];rfl)]
  have hn:(fZ r).length=4:=by unfold fZ;rw [if_neg he];rfl
  rw [hw 4 (by omega),hw 5 (by omega),hw 6 (by omega),hw 7 (by omega),hw 8 (by omega),hw 9 (by omega)];have:=ael h he;unfold aP at this;rw [<-this]
 unfold sK;rw [hm,if_neg (by rw [hz];simp),hto,if_neg (by rw [Yj hr,h];simp)]
theorem acP {r:dB} (h:aL r=0):mY r=(jC (fZ r),0):=by unfold mY;rw [if_neg (by simpa using h)]
def lI (r:dB):List UInt8:=jF (mY r).1
def bJ (rs:List dB):List UInt8:=rs.flatMap lI
theorem kV (a b:List dB):bJ (a++b)=bJ a++bJ b:=List.flatMap_append
theorem zK (r:dB):6<=(lI r).length/\(lI r).length<=46:=by
 unfold lI;rw [uJ];have:=DZ r;omega
theorem Nq {p t:List UInt8} (hp:p.length<=65535) {k:Nat} (hk:2<=k):cB ((jF p).take k++t)=p.length:=by
 obtain ⟨k,rfl⟩: ∃ j,k=j+2:=⟨k-2,by omega⟩;unfold jF headed;simp only [List.cons_append,List.take_succ_cons,cB,UInt8.toNat_ofNat'];omega
theorem Tt {r:dB} (h:aL r=0) (t:List UInt8):firstM (lI r++t)=(r,(lI r).length):=by
 have hl:=DZ r;have hfl:(lI r).length=(mY r).1.length+6:=uJ _;have hpay:cB (lI r++t)=(mY r).1.length:=by
  have:=Nq (p:=(mY r).1) (t:=t) (by omega) (k:=(lI r).length) (by omega);rwa [show List.take (lI r).length (jF (mY r).1)=lI r from List.take_length] at this
 have hlen:(lI r++t).length=(mY r).1.length+6+t.length:=by rw [List.length_append,hfl]
 have hpl:((lI r++t).drop 2).take (cB (lI r++t))=(mY r).1:=by
  rw [hpay];unfold lI jF headed;simp
 have hd:sK (mY r).1=(r,0):=by rw [acP h];exact aiy h
 rw [PX (by omega) (by rw [hpay];omega) (by rw [hpl,hd]) (by rw [hpl,hpay,<-hfl,List.take_left];rfl),hpl,hd,hpay,hfl]
theorem WI {r:dB} {k:Nat} (hk:k< (lI r).length):(firstM ((lI r).take k)).2=0:=by
 have hl:=DZ r;have hfl:(lI r).length=(mY r).1.length+6:=uJ _;have h2:((lI r).take k).length=k:=by rw [List.length_take];omega
 by_cases hs:k<2
 ·rw [yT (by omega)];rfl
 have hpay:=Nq (p:=(mY r).1) (t:=[]) (by omega) (k:=k) (by omega);rw [List.append_nil] at hpay;have at0:cB ((lI r).take k)=(mY r).1.length:=hpay;rw [Kv (by omega) (by rw [h2,at0];omega)];rfl
theorem yg: ∀ {rs:List dB} {t:List UInt8},(∀ r∈rs,aL r=0)->(firstM t).2=0->bQ (bJ rs++t)=(rs,(bJ rs).length)
 | [],t,_,ht=>GY (by simpa [bJ] using ht)
 | r::rs,t,h,ht=>by
  have e:bJ (r::rs)++t=lI r++(bJ rs++t):=by simp [bJ,List.flatMap_cons]
  have hf:=Tt (h r (by simp)) (bJ rs++t);have hlen:=zK r;rw [e,Nk (by rw [hf];show ¬ (lI r).length=0;omega),hf];simp only [List.drop_left];rw [yg (λx hx=>h x (by simp [hx])) ht];simp [bJ,List.flatMap_cons]
theorem xG:(firstM []).2=0:=by rw [yT (by simp)];rfl
theorem Nr: ∀ (rs:List dB) (k:Nat),k<=(bJ rs).length-> ∃ j t,(bJ rs).take k=bJ (rs.take j)++t/\(firstM t).2=0/\j<=rs.length
 | [],k,_=>⟨0,[],by simp [bJ],xG,Nat.le_refl _⟩
 | r::rs,k,hk=>by
  have e:bJ (r::rs)=lI r++bJ rs:=by simp [bJ,List.flatMap_cons]
  by_cases h:k< (lI r).length
  ·refine ⟨0,(lI r).take k,?_,WI h,Nat.zero_le _⟩;rw [e,List.take_append_of_le_length (by omega)];simp [bJ]
  rw [e,List.length_append] at hk;obtain ⟨j,t,h1,h2,h3⟩:=Nr rs (k-(lI r).length) (by omega);refine ⟨j+1,t,?_,h2,by simp;omega⟩;rw [e,List.take_append,List.take_of_length_le (by omega),h1];simp [bJ,List.flatMap_cons]
theorem aem {l:List UInt8} {s:Int} {r:dB} (h:aL r=0) (h0:0<=s) (h1:s<=l.length) (hl:l.length+46<=100000):iO l s r=(l++lI r,s,0):=by
 unfold iO;have:=zK r;rw [if_neg (by simp [cO];omega),if_neg (by rw [acP h];simp),if_neg (by show ¬ _<_+(lI r).length;omega)];rfl
theorem Ns {l:List UInt8} {s:Int} {r:dB} (h:(iO l s r).2.2=0):iO l s r=(l++lI r,s,0)/\aL r=0/\l.length+(lI r).length<=100000:=by
 unfold iO at h⊢
 split at h
 ·cases h
 split at h
 ·rename_i h2;exact absurd h h2
 split at h
 ·cases h
 rename_i h1 h2 h3
 rw [if_neg h1,if_neg h2,if_neg h3];refine ⟨rfl,?_,by show _+(jF (mY r).1).length<=_;omega⟩;unfold mY at h2
 split at h2
 ·exact Classical.not_not.1 h2
 rename_i h4;exact Classical.not_not.1 h4
end Go.Proofs.YthhnonpehllibaaGreatDoor
