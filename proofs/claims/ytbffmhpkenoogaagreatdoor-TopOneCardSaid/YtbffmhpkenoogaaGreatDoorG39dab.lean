import Derived.Test.YtbffmhpkenoogaaGreatDoorG32584
import Derived.Test.YtbffmhpkenoogaaGreatDoorG46bc8
import Derived.Test.YtbffmhpkenoogaaGreatDoorGda7ad
set_option maxRecDepth 100000
set_option maxHeartbeats 8000000
namespace Go.Proofs.YtbffmhpkenoogaaGreatDoor
open ChangeShapes WideShapes RowKit
def oK (l:List UInt8):Int:=l.foldl (λs c=>s*256+(c.toNat:Int)) 0
theorem Yj (l:List UInt8) (c:UInt8):oK (l++[c])=oK l*256+c.toNat:=by simp [oK]
theorem af6: ∀ (l:List UInt8),l.length<=4->0<=oK l/\oK l<=4294967295
 | [],_=>by simp [oK]
 | [a],_=>by have:=u8_in a;simp [oK];omega
 | [a,b],_=>by have:=u8_in a;have:=u8_in b;simp [oK];omega
 | [a,b,c],_=>by have:=u8_in a;have:=u8_in b;have:=u8_in c;simp [oK];omega
 | [a,b,c,d],_=>by have:=u8_in a;have:=u8_in b;have:=u8_in c;have:=u8_in d;simp [oK];omega
 | _::_::_::_::_::_,h=>by simp at h
def Bg:dz×Nat:=(oD,0)
def bY (b:List UInt8):Nat:=match b with
 | x::y::_=>x.toNat*256+y.toNat
 | _=>0
def firstM (b:List UInt8):dz×Nat:=
 if b.length<2 then Bg else if b.length<bY b+6 then Bg else if oK ((b.drop (2+bY b)).take 4)≠yL (b.take (2+bY b)) then Bg
 else if (rQ ((b.drop 2).take (bY b))).2≠0 then Bg else ((rQ ((b.drop 2).take (bY b))).1,bY b+6)
section
variable {b:List UInt8}
theorem yc (h:b.length<2):firstM b=Bg:=if_pos h
theorem Jq (h: ¬ b.length<2) (h1:b.length<bY b+6):firstM b=Bg:=by unfold firstM;rw [if_neg h,if_pos h1]
theorem U7 (h: ¬ b.length<2) (h1: ¬ b.length<bY b+6) (h2:oK ((b.drop (2+bY b)).take 4)≠yL (b.take (2+bY b))):firstM b=Bg:=by unfold firstM;rw [if_neg h,if_neg h1,if_pos h2]
theorem U8 (h: ¬ b.length<2) (h1: ¬ b.length<bY b+6) (h2:oK ((b.drop (2+bY b)).take 4)=yL (b.take (2+bY b))) (h3:(rQ ((b.drop 2).take (bY b))).2≠0):firstM b=Bg:=by
 unfold firstM;rw [if_neg h,if_neg h1,if_neg (by simpa using h2),if_pos h3]
theorem LB (h: ¬ b.length<2) (h1: ¬ b.length<bY b+6) (h2:oK ((b.drop (2+bY b)).take 4)=yL (b.take (2+bY b))) (h3:(rQ ((b.drop 2).take (bY b))).2=0):firstM b=((rQ ((b.drop 2).take (bY b))).1,bY b+6):=by
 unfold firstM;rw [if_neg h,if_neg h1,if_neg (by simpa using h2),if_neg (by simpa using h3)]
theorem vZ:(firstM b).2<=b.length:=by
 unfold firstM Bg
 split
 ·exact Nat.zero_le _
 split
 ·exact Nat.zero_le _
 split
 ·exact Nat.zero_le _
 split
 ·exact Nat.zero_le _
 simp;omega
theorem alg {x y:UInt8} (hx:b[0]? =some x) (hy:b[1]? =some y):bY b=x.toNat*256+y.toNat:=by
 match b,hx,hy with
 | x'::y'::r,hx,hy=>
  simp at hx hy;subst hx;subst hy;rfl
 | [_],_,hy=>simp at hy
end
def o8:Nat->List UInt8->List dz×Nat
 | 0,_=>([],0)
 | f+1,b=>if (firstM b).2=0 then ([],0) else ((firstM b).1::(o8 f (b.drop (firstM b).2)).1,(firstM b).2+(o8 f (b.drop (firstM b).2)).2)
theorem FT: ∀ (f g:Nat) (b:List UInt8),b.length<f->b.length<g->o8 f b=o8 g b
 | 0,_,b,h,_=>absurd h (by omega)
 | _,0,b,_,h=>absurd h (by omega)
 | f+1,g+1,b,hf,hg=>by
  unfold o8;by_cases h:(firstM b).2=0
  ·rw [if_pos h,if_pos h]
  rw [if_neg h,if_neg h,FT f g _ (by rw [List.length_drop];have:= @vZ b;omega) (by rw [List.length_drop];have:= @vZ b;omega)]
def bL (b:List UInt8):List dz×Nat:=o8 (b.length+1) b
theorem FU {b:List UInt8} (h:(firstM b).2=0):bL b=([],0):=by unfold bL o8;rw [if_pos h]
theorem LD {b:List UInt8} (h: ¬ (firstM b).2=0):bL b=((firstM b).1::(bL (b.drop (firstM b).2)).1,(firstM b).2+(bL (b.drop (firstM b).2)).2):=by
 unfold bL;rw [o8,if_neg h,FT b.length ((b.drop (firstM b).2).length+1) _ (by rw [List.length_drop];have:= @vZ b;omega) (by omega)]
theorem LG: ∀ (f:Nat) (b:List UInt8),(o8 f b).2<=b.length/\(o8 f b).1.length<=b.length
 | 0,b=>by simp [o8]
 | f+1,b=>by
  unfold o8
  split
  ·simp
  rename_i h
  have h1:=LG f (b.drop (firstM b).2);rw [List.length_drop] at h1;have h2:= @vZ b;simp;omega
def sV (l:List UInt8) (s:Int):List dz×Nat×Int:=if cu l s=true then ((bL l).1,(bL l).2,0) else ([],0,6)
def dz.cells (r:dz):List Value:=[iV r.kind,iV r.queue,iV r.epoch,iV r.peer,iV r.ev.kind,iV r.ev.producer,iV r.ev.id,iV r.ev.body,iV r.ev.aN,iV r.ev.hno]
def acy (w:World) (r:List dz×Nat×Int) (e:Ending) (w':World):Prop:=
 ∃ A c,e= .returned (.tuple #[.slice A r.1.length c,iV (r.2.1:Int),iV r.2.2])/\St w.heap.size w w' [.own 205 10 (.slice A r.1.length c) r.1.length (r.1.flatMap dz.cells)]
def J4 (x:UInt8):List Value:=[.int .u8 x.toNat]
theorem PX (l:List UInt8):byteCells l=l.flatMap J4:=by
 induction l with
 | nil=>rfl
 | cons a l ih=>rw [List.flatMap_cons,<-ih];rfl
theorem amj {w:World} {B:Nat} {A:Option Addr} {n:Nat} {l:List UInt8} (h:Rd w B 1 A n (byteCells l)):Rd w B 1 A n (l.flatMap J4):=PX l▸h
theorem ait {w:World} {B:Nat} {A:Option Addr} {n:Nat} {l:List UInt8} (h:Rd w B 1 A n (l.flatMap J4)):Rd w B 1 A n (byteCells l):=(PX l).symm▸h
theorem abp {l:List UInt8}:(l.take 4).take 4=l.take 4:=by simp [List.take_take]
theorem Yk {l:List UInt8} {k:Nat} {x:UInt8} (h:l[k]? =some x):oK (l.take k)*256+(x.toNat:Int)=oK (l.take (k+1)):=by
 rw [List.take_add_one,h,<-Yj];rfl
def Yl (w:World) (r:dz×Nat) (e:Ending) (w':World):Prop:=e= .returned (.tuple #[r.1.val,iV (r.2:Int)])/\Below w.heap.size w w'
theorem Rn (A:Option Addr) (c:Nat) (b:List UInt8) (w:World) (h:Rd w w.heap.size 1 A b.length (byteCells b)) (hn:b.length<=c) (hcm:c<=9223372036854775807) (hb:b.length<=100000):
    Calls Tryz.prog 110 #[.slice A b.length c] w (Yl w (firstM b)):=by
 have S:=(St.start w).bS (amj h);refine fZ 69 Tryz.func110 ?_;refine cw [0] ?_;refine zN 2 ?_;refine fI S vJ ?_;intro b1 w2 S3;refine zN 8 ?_;by_cases h4:((b.length:Nat):Int)<2
 ·refine zN 7 ?_;refine sa 0 S3 jS ?_;intro w5 S6;refine zN 6 ?_;exact ⟨by rw [yc (by omega)];rfl,S6.low⟩
 refine zN 7 ?_;refine gT S3 mixed (by kernel_rfl) ?_;refine zQ ?_;obtain ⟨b8,o9,rfl⟩:=Rd.addr (St.rd 1 S3 rfl) (by omega);obtain ⟨x10,TD⟩:=Ku 0 (St.rd 1 S3 rfl) (by omega);refine uv (λ_ _=>ku 0) ?_;refine uv (v:= .int .u8 ((x10).toNat:Int)) (λ_ O9=>(au rfl rfl (ay Tryz.underlying5 rfl (Rd.Wj (i:=0) (St.rd 1 O9 rfl) (bV (enc:=J4) (sz:=1) (λ_=>rfl) TD rfl))))) ?_;refine uv (v:=iV ((x10).toNat:Int)) (λ_ _=>(ED rfl rfl (M5 (a:=x10) rfl (by kernel_rfl)))) ?_;have axK:=u8_in x10;refine uv (v:=iV (((x10).toNat:Int)*256)) (λ_ _=>(aO rfl rfl rfl (aa9 rfl (by omega) (by omega)))) ?_;refine uv (v:=iV (2+(((x10).toNat:Int)*256))) (λ_ _=>jh) ?_;refine zQ ?_;obtain ⟨x19,amk⟩:=Ku 1 (St.rd 1 S3 rfl) (by omega);refine uv (λ_ _=>ku 1) ?_;refine uv (v:= .int .u8 ((x19).toNat:Int)) (λ_ EN=>(au rfl rfl (ay Tryz.underlying5 rfl (Rd.Wj (i:=0) (St.rd 1 EN rfl) (bV (enc:=J4) (sz:=1) (λ_=>rfl) amk rfl))))) ?_;refine uv (v:=iV ((x19).toNat:Int)) (λ_ _=>(ED rfl rfl (M5 (a:=x19) rfl (by kernel_rfl)))) ?_;have axL:=u8_in x19;have axM:=alg TD amk;have axN:bY b<=65535:=by omega
 refine uv (v:=iV ((2+bY b:Nat):Int)) (λ_ _=>(aO rfl rfl rfl (by rw [show ((2+bY b:Nat):Int)=2+(((x10).toNat:Int)*256)+((x19).toNat:Int) by omega];exact aaz (by omega) (by omega)))) ?_;refine zQ ?_;refine gY λX8 sS=>?_;refine zN 7 ?_;refine vv (v:=iV (((2+bY b)+4:Nat):Int)) jh ?_;by_cases h30:((b.length:Nat):Int)< (((2+bY b)+4:Nat):Int)
 ·refine zN 7 ?_;refine sa 0 sS jS ?_;intro WR pz;refine zN 6 ?_;exact ⟨by rw [Jq (by omega) (by omega)];rfl,pz.low⟩
 refine zN 17 ?_;refine vv (v:=iV (((2+bY b)+4:Nat):Int)) jh ?_;refine zQ ?_;refine vv (v:=iV (((2+bY b)+4:Nat):Int)) jh ?_;obtain ⟨A33,asw,aiu⟩:=Li (b:=b) (c:=c) (lo:=(some (iV ((2+bY b:Nat):Int)))) (hi:=(some (iV (((2+bY b)+4:Nat):Int)))) (mx:=(some (iV (((2+bY b)+4:Nat):Int)))) (l:=2+bY b) (k:=2+bY b+4) (q:=2+bY b+4) (m:=4) (c':=4) Tryz.underlying123 Tj (aa8 (2+bY b) (2+bY b+4) (2+bY b+4) rfl rfl rfl (by omega) (by omega) (by omega)) (ait (show Rd _ _ _ _ _ _ from sS.all 1 _ rfl)) (by omega) (by omega) (by omega) (by omega) (by omega)
 replace aiu:Rd _ _ _ _ _ (((b.drop (2+bY b)).take 4).flatMap J4):=amj aiu
 have nJ:=sS.bS aiu;refine vv (v:= .slice A33 4 4) (jq rfl rfl (iK rfl) (iK rfl) (iK rfl) (asw _)) ?_;refine zN 5 ?_;refine fH (X:=Nat) (λxv=>[(0,.slice (some ⟨b8,o9,none⟩) b.length c),(2,.pointer (some ⟨b1,0,none⟩)),(3,iV 0),(4,iV ((2+bY b:Nat):Int)),(37,.slice A33 4 4),(38,iV 4),(5,iV (oK (((b.drop (2+bY b)).take 4).take xv))),(39,iV ((xv:Nat):Int))]) (λxv wr=>(xv<=4)/\St w.heap.size w wr [.rd 1 A33 4 (((b.drop (2+bY b)).take 4).flatMap J4),.blk b1 #[iV 0,iV 0,iV 0,iV 0,iV 0,iV 0,iV 0,iV 0,iV 0,iV 0] 205,.rd 1 (some ⟨b8,o9,none⟩) b.length ((b).flatMap J4)]) (λxv=>4-xv) (0) ?_ ?_ ?_
 ·exact ⟨Nat.zero_le _,nJ⟩
 ·exact ⟨rfl,rfl,rfl,rfl,rfl,rfl,rfl,rfl,trivial⟩
 rintro k Ym ⟨Pb,sI⟩
 try dsimp only at Pb sI
 refine bH (l':=[(0,.slice (some ⟨b8,o9,none⟩) b.length c),(2,.pointer (some ⟨b1,0,none⟩)),(3,iV 0),(4,iV ((2+bY b:Nat):Int)),(37,.slice A33 4 4),(38,iV 4),(5,iV (oK (((b.drop (2+bY b)).take 4).take k))),(39,iV ((k:Nat):Int))]) ⟨rfl,rfl,rfl,rfl,rfl,rfl,rfl,rfl,trivial⟩ (aT (aH ?_));by_cases h40:((k:Nat):Int)<4
 ·refine zN 11 ?_;obtain ⟨b41,o42,rfl⟩:=Rd.addr (St.rd 0 sI rfl) (by omega);obtain ⟨x43,aml⟩:=Ku k (St.rd 0 sI rfl) (by omega);refine vv (ku k) ?_;refine vv (au rfl rfl (ay Tryz.underlying5 rfl (Rd.Wj (i:=0) (St.rd 0 sI rfl) (bV (enc:=J4) (sz:=1) (λ_=>rfl) aml rfl)))) ?_;refine zN 5 ?_;have axO:=af6 (((b.drop (2+bY b)).take 4).take k) (by simp;omega);refine vv (v:=iV (oK (((b.drop (2+bY b)).take 4).take k)*256)) (aO rfl rfl rfl (aa9 rfl (by omega) (by omega))) ?_;refine zQ ?_;refine vv (v:=iV ((x43).toNat:Int)) (ED rfl rfl (M5 (a:=x43) rfl (by kernel_rfl))) ?_;have axP:=u8_in x43;refine vv (v:=iV (oK (((b.drop (2+bY b)).take 4).take k)*256+((x43).toNat:Int))) (aO rfl rfl rfl (aoB rfl (by omega) (by omega) (by omega) (by omega))) ?_;refine zN 5 ?_;refine vv (v:=iV ((k+1:Nat):Int)) jh ?_;refine zN 2 ?_;refine bQ (k+1) ?_ ⟨rfl,rfl,rfl,rfl,rfl,rfl,(ajZ (Yk aml)),rfl,trivial⟩ (by first | omega | (dsimp only;omega));exact ⟨(by omega),sI⟩
 refine zN 16 ?_;obtain ⟨Kz,asx,aiv⟩:=Li (b:=b) (c:=c) (lo:=none) (hi:=(some (iV ((2+bY b:Nat):Int)))) (mx:=none) (l:=0) (k:=2+bY b) (q:=c) (m:=2+bY b) (c':=c) Tryz.underlying123 Tj (aq2 (2+bY b) rfl (by omega)) (ait (show Rd _ _ _ _ _ _ from sI.all 2 _ rfl)) (by omega) (by omega) (by omega) (by omega) (by omega)
 replace aiv:Rd _ _ _ _ _ (byteCells (b.take (2+bY b))):=aiv
 have vX:=sI.bS aiv;refine vv (v:= .slice Kz (2+bY b) c) (jq rfl rfl lT (iK rfl) lT (asx _)) ?_;refine dG aoY (K5 _ _ _ (b.take (2+bY b)) _ (St.rd 0 vX rfl) (by omega)) ?_;rintro _ Ye ⟨rfl,q53,rfl⟩;refine ⟨_,rfl,?_⟩;have oG:=vX.drewN q53;obtain rfl:k=4:=by omega
 by_cases h54:oK ((b.drop (2+bY b)).take 4)=yL (b.take (2+bY b))
 ·refine vv (v:= .bool false) (aO rfl rfl rfl (Gp (by rw [abp];exact h54))) ?_;refine zN 9 ?_;obtain ⟨A55,asy,aiw⟩:=Li (b:=b) (c:=c) (lo:=(some (iV 2))) (hi:=(some (iV ((2+bY b:Nat):Int)))) (mx:=none) (l:=2) (k:=2+bY b) (q:=c) (m:=bY b) (c':=c-2) Tryz.underlying123 Tj (Ti 2 (2+bY b) rfl rfl (by omega) (by omega)) (ait (show Rd _ _ _ _ _ _ from oG.all 3 _ rfl)) (by omega) (by omega) (by omega) (by omega) (by omega)
  replace aiw:Rd _ _ _ _ _ (byteCells ((b.drop 2).take (bY b))):=aiw
  have BJ:=oG.bS aiw;refine vv (v:= .slice A55 (bY b) (c-2)) (jq rfl rfl (iK rfl) (iK rfl) lT (asy _)) ?_;refine cab aoZ BJ (NQ A55 (bY b) (c-2) ((b.drop 2).take (bY b)) _ (St.rd 0 BJ rfl) (by omega) (by unfold maxLen;omega)) ?_;intro w59 Sy;refine zN 3 ?_;refine fI Sy vJ ?_;intro b62 w63 S64;refine sa 0 S64 jS ?_;intro w65 EP;refine zN 7 ?_;by_cases AV:(rQ ((b.drop 2).take (bY b))).2=0
  ·refine zN 10 ?_;refine vv (v:=iV (((2+bY b)+4:Nat):Int)) jh ?_;refine sa 4 EP jS ?_;intro w68 uF;refine zN 5 ?_;exact ⟨by rw [LB (by omega) (by omega) h54 AV];exact congrArg Ending.returned (by show Value.tuple #[_,iV _]=Value.tuple #[_,iV _];rw [show ((2+bY b+4:Nat):Int)=((bY b+6:Nat):Int) by omega];rfl),uF.low⟩
  refine zN 7 ?_;refine sa 4 EP jS ?_;intro Yg rM;refine zN 6 ?_;exact ⟨by rw [U8 (by omega) (by omega) h54 AV];rfl,rM.low⟩
 refine vv (v:= .bool true) (aO rfl rfl rfl (MZ (by rw [abp];exact h54))) ?_;refine zN 6 ?_;refine sa 2 oG jS ?_;intro w72 sH;refine zN 6 ?_;exact ⟨by rw [U7 (by omega) (by omega) h54];rfl,sH.low⟩
theorem Yn {w:World} {base:Nat} {e:TypeId} {size:Nat} {A:Option Addr} {n c:Nat} {xs:List Value} (h:w.ownsRow base e size (.slice A n c) n xs):n<=c/\c<=maxLen:=by
 obtain ⟨A',c',e1,h1,h2⟩:=lK h
 cases e1;exact ⟨h1,h2⟩
theorem Od {l:List UInt8}:bL l=([]++(bL (l.drop 0)).1,0+(bL (l.drop 0)).2):=by simp
theorem Rp {l:List UInt8} {acc:List dz} {p:Nat} (h:bL l=(acc++(bL (l.drop p)).1,p+(bL (l.drop p)).2)) (h1: ¬ (firstM (l.drop p)).2=0):
  bL l=(acc++[(firstM (l.drop p)).1]++(bL (l.drop (p+(firstM (l.drop p)).2))).1,p+(firstM (l.drop p)).2+(bL (l.drop (p+(firstM (l.drop p)).2))).2):=by
 rw [h,LD h1,List.drop_drop,List.append_assoc,Nat.add_assoc];rfl
theorem Yo {l:List UInt8} {s:Int} {acc:List dz} {p:Nat} (hm:cu l s=true) (h:bL l=(acc++(bL (l.drop p)).1,p+(bL (l.drop p)).2)) (h1:(firstM (l.drop p)).2=0):sV l s=(acc,p,0):=by
 unfold sV;rw [if_pos hm,h,FU h1];simp
theorem BP (A:Option Addr) (c:Nat) (l:List UInt8) (s:Int) (w:World) (h:Rd w w.heap.size 1 A l.length (byteCells l)):
    Calls Tryz.prog 77 #[.agg #[.slice A l.length c,iV s]] w (acy w (sV l s)):=by
 have S:=(St.start w).bS h;refine fZ 37 Tryz.func77 ?_;refine cw [0] ?_;refine zN 2 ?_;refine iC S ?_;intro b1 w2 S3;refine zN 8 ?_
 rcases yV l s with ⟨ho,hm⟩ | ⟨ho,hm⟩
 ·have HO:=λw h=>kP A l.length c l s w h;rw [ho] at HO;refine dG aaF (HO _ (St.rd 1 S3 rfl)) ?_;rintro _ w8 ⟨A4,c5,rfl,hb6,hO7⟩;refine ⟨_,rfl,?_⟩;have S9:=S3.sN hb6 hO7;clear HO hb6 hO7 S3;change St _ _ _ [.own 5 1 (.slice A4 l.length c5) l.length (byteCells l),.blk b1 #[.slice A l.length c,iV s] 125,.rd 1 A l.length (byteCells l)] at S9;have hcap:=Yn (S9.own 0 rfl);unfold maxLen at hcap;have hlen:l.length<=100000:=(nO hm).1;refine zN 3 ?_;refine fI S9 xX ?_;intro b10 HY l6;refine sa 0 l6 eH ?_;intro Ct jT;refine zN 15 ?_;have iw:=jT.nil 205 10;refine zN 9 ?_;have lg:=iw.aR [4];refine fH (X:=(List dz)×Nat×Nat×(Option Addr)×Nat) (λxv=>[(2,.slice none 0 0),(3,iV 0),(4,iV 0),(5,.pointer (some ⟨b10,0,none⟩)),(7,.slice xv.2.2.2.1 xv.2.2.1 xv.2.2.2.2),(8,iV ((xv.2.1:Nat):Int))]) (λxv wr=>(bL l=(xv.1++(bL (l.drop xv.2.1)).1,xv.2.1+(bL (l.drop xv.2.1)).2))/\(xv.2.1<=l.length)/\(xv.2.2.1<=xv.2.1)/\(xv.2.2.1=xv.1.length)/\St w.heap.size w wr [.own 205 10 (.slice xv.2.2.2.1 xv.2.2.1 xv.2.2.2.2) xv.2.2.1 ((xv.1).flatMap dz.cells),.blk b10 #[.slice A4 l.length c5,iV s] 125,.own 5 1 (.slice A4 l.length c5) l.length (byteCells l),.blk b1 #[.slice A l.length c,iV s] 125]) (λxv=>l.length-xv.2.1) ([],0,0,none,0) ?_ ?_ ?_
  ·exact ⟨Od,Nat.zero_le _,Nat.le_refl _,rfl,lg⟩
  ·exact ⟨rfl,rfl,rfl,rfl,rfl,rfl,trivial⟩
  rintro ⟨acc,p,m,A9,c9⟩ Jp ⟨aix,aiy,hi21,hi22,iN⟩
  try dsimp only at aix aiy hi21 hi22 iN
  refine bH (l':=[(2,.slice none 0 0),(3,iV 0),(4,iV 0),(5,.pointer (some ⟨b10,0,none⟩)),(7,.slice A9 m c9),(8,iV ((p:Nat):Int))]) ⟨rfl,rfl,rfl,rfl,rfl,rfl,trivial⟩ (CY (aT (aH (vv (uZ 0 Wp) ?_))));refine zN 2 ?_;obtain ⟨A23,asz,amm⟩:=Li (b:=l) (c:=c5) (lo:=(some (iV ((p:Nat):Int)))) (hi:=none) (mx:=none) (l:=p) (k:=l.length) (q:=c5) (m:=(l.drop p).length) (c':=c5-p) Tryz.underlying123 Tj (ad5 p rfl (by omega)) (St.ord 2 iN rfl) (by omega) (by omega) (by omega) List.length_drop.symm rfl;rw [List.take_length] at amm;refine vv (v:= .slice A23 ((l.drop p).length) (c5-p)) (jq rfl rfl (iK rfl) lT lT (asz _)) ?_;refine dG aoR (Rn A23 (c5-p) (l.drop p) _ amm (by rw [List.length_drop];omega) (by omega) (by rw [List.length_drop];omega)) ?_;rintro _ Lv ⟨rfl,aec⟩;refine ⟨_,rfl,?_⟩;have sF:=iN.on aec;clear aec iN;have hfl:= @vZ (l.drop p);rw [List.length_drop] at hfl;refine zN 3 ?_;refine fI sF vJ ?_;intro b29 WO mW;refine sa 0 mW jS ?_;intro w32 qP;refine zN 7 ?_;by_cases h34:(((firstM (l.drop p)).2:Nat):Int)=0
  ·refine zN 19 ?_;have sW:=qP.aR [4,3,2,0];have hz:sV l s=(acc,p,0):=Yo hm aix (by omega);rw [hz];subst hi22;exact ⟨_,_,rfl,sW⟩
  refine zN 10 ?_;refine X0 qP ?_;intro tX Ym sI;refine dU (news:=[iV ((firstM (l.drop p)).1.kind),iV ((firstM (l.drop p)).1.queue),iV ((firstM (l.drop p)).1.epoch),iV ((firstM (l.drop p)).1.peer),iV ((firstM (l.drop p)).1.ev.kind),iV ((firstM (l.drop p)).1.ev.producer),iV ((firstM (l.drop p)).1.ev.id),iV ((firstM (l.drop p)).1.ev.body),iV ((firstM (l.drop p)).1.ev.aN),iV ((firstM (l.drop p)).1.ev.hno)]) (xs':=(acc++[(firstM (l.drop p)).1]).flatMap dz.cells) 2 sI (wn rfl) rfl rfl rfl rfl rfl rfl (St.lJ (xs:=[iV ((firstM (l.drop p)).1.kind),iV ((firstM (l.drop p)).1.queue),iV ((firstM (l.drop p)).1.epoch),iV ((firstM (l.drop p)).1.peer),iV ((firstM (l.drop p)).1.ev.kind),iV ((firstM (l.drop p)).1.ev.producer),iV ((firstM (l.drop p)).1.ev.id),iV ((firstM (l.drop p)).1.ev.body),iV ((firstM (l.drop p)).1.ev.aN),iV ((firstM (l.drop p)).1.ev.hno)]) 0 sI rfl rfl rfl) Tryz.underlying176 M8 rfl (by decide) (bT rfl) (by simp only [maxLen];omega) (by omega) (jE (enc:=dz.cells) rfl rfl) ?_;intro FV c40 w41 axQ axR wh;refine zN 6 ?_;refine vv (v:=iV ((p+((firstM (l.drop p)).2):Nat):Int)) jh ?_;refine zN 3 ?_;have nV:=wh.aR [1,0];refine bQ (acc++[(firstM (l.drop p)).1],p+(firstM (l.drop p)).2,m+1,FV,c40) ?_ ⟨rfl,rfl,rfl,rfl,rfl,rfl,trivial⟩ (by first | omega | (dsimp only;omega));exact ⟨(Rp aix (by omega)),(by dsimp only;omega),(by dsimp only;omega),(by dsimp only;simp [hi22]),nV⟩
 have HO:=λw h=>kP A l.length c l s w h;rw [ho] at HO;refine dG aaF (HO _ (St.rd 1 S3 rfl)) ?_;rintro _ Sw ⟨A46,c47,rfl,hb48,amn⟩;refine ⟨_,rfl,?_⟩;have uE:=S3.sN hb48 amn;clear HO hb48 amn S3;refine zN 3 ?_;refine fI uE xX ?_;intro b52 w53 l7;refine sa 0 l7 eH ?_;intro w55 FW;refine zN 21 ?_;have qd:=FW.aR [3,2,1,0];rw [show sV l s=([],0,6) from if_neg (by rw [hm];simp)];exact ⟨none,0,rfl,qd.nil 205 10⟩
theorem af7 {l:List UInt8} {s:Int} (h:cu l s=true):Ga l s=(l,s,true):=by
 rcases yV l s with ⟨h1,_⟩ | ⟨_,h1⟩
 ·exact h1
 rw [h] at h1;cases h1
def jo (l:List UInt8) (s:Int):List UInt8×Int×Int:=if cu l s=true then (l.take (bL l).2,min s (bL l).2,0) else ([],0,6)
def af8 (w:World) (r:List UInt8×Int×Int) (e:Ending) (w':World):Prop:=
 ∃ A c,e= .returned (.tuple #[.agg #[.slice A r.1.length c,iV r.2.1],iV r.2.2])/\St w.heap.size w w' [.bX 1 A r.1.length (byteCells r.1)]
theorem Oe (A:Option Addr) (c:Nat) (l:List UInt8) (s:Int) (w:World) (h:Rd w w.heap.size 1 A l.length (byteCells l)):
    Calls Tryz.prog 76 #[.agg #[.slice A l.length c,iV s]] w (af8 w (jo l s)):=by
 have S:=(St.start w).bS h;refine fZ 34 Tryz.func76 ?_;refine cw [0] ?_;refine zN 2 ?_;refine iC S ?_;intro b1 w2 S3;refine fI S3 xX ?_;intro b4 w5 S6;refine zN 6 ?_;have hle:=LG (l.length+1) l;rw [<-show bL l=o8 (l.length+1) l from rfl] at hle
 cases hm:cu l s
 ·have HR:=λw h=>BP A c l s w h;rw [show sV l s=([],0,6) from if_neg (by rw [hm];simp)] at HR;refine dG aii (HR _ (St.rd 2 S6 rfl)) ?_;rintro _ w9 ⟨A7,c8,rfl,T11⟩;refine ⟨_,rfl,?_⟩;have nU:=S6.ext T11 rfl;change St _ _ _ [.own 205 10 (.slice A7 (([]:List dz).length) c8) (([]:List dz).length) ((([]:List dz)).flatMap dz.cells),_,_,_] at nU;refine zN 21 ?_;refine sa 1 nU eH ?_;intro w12 yF;refine zN 6 ?_;have jT:=yF.aR [3,2,1,0];rw [show jo l s=([],0,6) from if_neg (by rw [hm];simp)];exact ⟨none,0,rfl,aC jT⟩
 have HR:=λw h=>BP A c l s w h;rw [show sV l s=((bL l).1,(bL l).2,0) from if_pos hm] at HR;have hlen:l.length<=100000:=(nO hm).1;refine dG aii (HR _ (St.rd 2 S6 rfl)) ?_;rintro _ Jp ⟨A15,c16,rfl,T19⟩;refine ⟨_,rfl,?_⟩;have iN:=S6.ext T19 rfl;change St _ _ _ [.own 205 10 (.slice A15 ((bL l).1.length) c16) ((bL l).1.length) (((bL l).1).flatMap dz.cells),_,_,_] at iN;refine zN 8 ?_;refine Sm (vv (v:=iV 0) ym ?_);refine vv apb ?_;refine zN 8 ?_;have HO:=λw h=>kP A l.length c l s w h;rw [af7 hm] at HO;refine dG aaF (HO _ (St.rd 3 iN rfl)) ?_;rintro _ KA ⟨A20,c21,rfl,Yp,amo⟩;refine ⟨_,rfl,?_⟩;have jg:=iN.sN Yp amo;clear HO Yp amo iN;change St _ _ _ [.own 5 1 (.slice A20 l.length c21) l.length (byteCells l),.own 205 10 (.slice A15 ((bL l).1.length) c16) ((bL l).1.length) (((bL l).1).flatMap dz.cells),.blk b4 #[.slice none 0 0,iV 0] 125,.blk b1 #[.slice A l.length c,iV s] 125,.rd 1 A l.length (byteCells l)] at jg;have hcap:=dD (jg.own 0 rfl);unfold maxLen at hcap;refine zN 3 ?_;refine fI jg xX ?_;intro Yi LA qO;refine sa 0 qO eH ?_;intro w29 zV;refine zN 4 ?_;have mW:=zV.drew;refine eO 12 10 mW [] ?_;iterate 4 refine gy ?_
 obtain ⟨A36,asA,asB,asC⟩:=ae3 (b:=l) (A:=A20) (c:=c21) (lo:=none) (hi:=some (iV (((bL l).2:Nat):Int))) (mx:=some (iV (((bL l).2:Nat):Int))) (l:=0) (k:=(bL l).2) (q:=(bL l).2) (m:=(bL l).2) (c':=(bL l).2) Tryz.underlying123 Tj (aaC ((bL l).2) ((bL l).2) rfl rfl (Nat.le_refl _) (by omega)) (by omega) (by omega) (by omega) rfl rfl;refine gk (v:= .slice A36 ((bL l).2) ((bL l).2)) 4 rfl mW (λ_ _=>(jq rfl rfl lT (iK rfl) (iK rfl) (asA _))) ?_;iterate 3 refine gy ?_
 refine Co (v:=iV (min s ((((bL l).2:Nat):Int)))) (i:=8) (m:=3) rfl (by kernel_rfl) (by kernel_rfl) (by kernel_rfl) rfl (by kernel_rfl) rfl mW rfl (wn rfl) rfl rfl (λ_ _=>(nT (vs:=[iV s,iV (((bL l).2:Nat):Int)]) rfl ⟨rfl,rfl,trivial⟩ λ_=>ahm)) ?_;refine Co (v:= .agg #[.slice A36 ((bL l).2) ((bL l).2),iV (min s ((((bL l).2:Nat):Int)))]) (i:=9) (m:=2) rfl (by kernel_rfl) (by kernel_rfl) (by kernel_rfl) rfl (by kernel_rfl) rfl mW rfl (wn rfl) rfl rfl (λ_ _=>(Ck (vs:=[(0,.slice A36 ((bL l).2) ((bL l).2)),(1,iV (min s ((((bL l).2:Nat):Int))))]) rfl ⟨rfl,rfl,rfl,rfl,trivial⟩ (by kernel_rfl))) ?_;refine dX (by kernel_rfl) rfl rfl rfl ?_;refine sa 3 mW eH ?_;intro WS yg;refine zN 2 ?_;refine iJ ?_;refine zN 3 ?_;have u6:=yg.seal 1 rfl (asB _ _ (St.ord 1 yg rfl)) (λa h=>asC a h);have uG:=u6.aR [5,4,3,2,0];have hlt:(l.take (bL l).2).length=(bL l).2:=by rw [List.length_take];omega
 rw [show jo l s=(l.take (bL l).2,min s (bL l).2,0) from if_pos hm];exact ⟨A36,(bL l).2,by rw [hlt];rfl,by rw [hlt];exact uG⟩
theorem Df {a:UInt8} {n:Int} (h:n=a.toNat):UInt8.ofNat n.toNat=a:=by
 subst h;simp
theorem Yq {a b c d:UInt8} {n:Int} (h:n=16777216*(a.toNat:Int)+65536*(b.toNat:Int)+256*(c.toNat:Int)+(d.toNat:Int)):yw n=[a,b,c,d]:=by
 have:=u8_in a;have:=u8_in b;have:=u8_in c;have:=u8_in d;unfold yw;rw [Df (a:=a) (by omega),Df (a:=b) (by omega),Df (a:=c) (by omega),Df (a:=d) (by omega)]
theorem LH {a b c d:UInt8}:oK [a,b,c,d]=16777216*(a.toNat:Int)+65536*(b.toNat:Int)+256*(c.toNat:Int)+(d.toNat:Int):=by
 simp [oK];omega
theorem acz {q:List UInt8} {s:Int} (hq:q.length=4) (h0:0<=s) (h1:s<=4294967295):oK q=s↔yw s=q:=by
 match q,hq with
 | [a,b,c,d],_=>
  constructor
  ·intro h;rw [LH] at h;exact Yq h.symm
  intro h;have ha:=u8_in a;have hb:=u8_in b;have hc:=u8_in c;have hd:=u8_in d;unfold yw at h;simp only [List.cons.injEq,and_true] at h;obtain ⟨e1,e2,e3,e4⟩:=h;subst e1;subst e2;subst e3;subst e4;rw [LH];simp only [UInt8.toNat_ofNat'];omega
section
variable {b:List UInt8}
theorem Va (h: ¬ b.length<2) (h1: ¬ b.length<bY b+6):headed ((b.drop 2).take (bY b))=b.take (2+bY b):=by
 match b,h,h1 with
 | x::y::r,_,h1=>
  have e:bY (x::y::r)=x.toNat*256+y.toNat:=rfl;have hx:=x.toNat_lt;have hy:=y.toNat_lt;have hl:((List.drop 2 (x::y::r)).take (bY (x::y::r))).length=bY (x::y::r):=by
   rw [List.length_take,List.length_drop];omega
  unfold headed;rw [hl,show UInt8.ofNat (bY (x::y::r) / 256)=x by rw [e,show (x.toNat*256+y.toNat) / 256=x.toNat by omega];simp,
   show UInt8.ofNat (bY (x::y::r) % 256)=y by rw [e,show (x.toNat*256+y.toNat) % 256=y.toNat by omega];simp]
  rw [Nat.add_comm 2];rfl
 | [],h,_=>simp at h
 | [_],h,_=>simp at h
theorem Yr (h: ¬ b.length<2) (h1: ¬ b.length<bY b+6):oK ((b.drop (2+bY b)).take 4)=yL (b.take (2+bY b))↔jv ((b.drop 2).take (bY b))=b.take (bY b+6):=by
 unfold jv;rw [Va h h1,show bY b+6=(2+bY b)+4 by omega,List.take_add (i:=2+bY b) (j:=4),List.append_cancel_left_eq];obtain ⟨s0,s1⟩:=Jk (b.take (2+bY b));exact acz (by rw [List.length_take,List.length_drop];omega) s0 (by omega)
theorem Og (h: ¬ b.length<2) (h1: ¬ b.length<bY b+6) (h3:(rQ ((b.drop 2).take (bY b))).2=0) (hf:jv ((b.drop 2).take (bY b))=b.take (bY b+6)):firstM b=((rQ ((b.drop 2).take (bY b))).1,bY b+6):=
 LB h h1 ((Yr h h1).2 hf) h3
end
def H7 (n:Int):Prop:=0<=n/\n<=2147483647
theorem af9 {n:Int} (h:H7 n):(pU n).1=yw n:=by unfold pU;unfold H7 at h;rw [if_pos h]
theorem acA {n:Int} (h:H7 n) (t:List UInt8):nM (yw n++t)=(n,0):=by
 obtain ⟨h0,h1⟩:=h;unfold yw nM;simp only [List.cons_append,List.nil_append,UInt8.toNat_ofNat'];rw [if_neg (by omega)];simp only [Prod.mk.injEq,and_true];omega
theorem ER {n:Int} {l:List Int} (h:H7 n):jm (n::l)=yw n++jm l:=by
 show (n::l).flatMap _=_
 rw [List.flatMap_cons,af9 h];rfl
theorem WT: ∀ {l:List Int},(∀ n∈l,H7 n)->(jm l).length=4*l.length
 | [],_=>rfl
 | n::l,h=>by
  rw [ER (h n (by simp)),List.length_append,WT (λm hm=>h m (by simp [hm])),show (yw n).length=4 from rfl,List.length_cons];omega
theorem PY: ∀ {l:List Int} {j:Nat},(∀ n∈l,H7 n)->(jm l).drop (4*j)=jm (l.drop j)
 | l,0,_=>rfl
 | [],j+1,_=>by simp [jm]
 | n::l,j+1,h=>by
  rw [ER (h n (by simp)),List.drop_succ_cons,<-PY (j:=j) (λm hm=>h m (by simp [hm])),show 4*(j+1)=(yw n).length+4*j by show _=4+_;omega,<-List.drop_drop,List.drop_left]
theorem Sz {l:List Int} {j:Nat} {n:Int} (h: ∀ n∈l,H7 n) (hj:l[j]? =some n):tk (jm l) j=(n,0):=by
 unfold tk;obtain ⟨hl,hn⟩:=List.getElem?_eq_some_iff.1 hj;rw [PY h,List.drop_eq_getElem_cons hl,hn,ER (h n (by rw [<-hn];exact List.getElem_mem hl))];exact acA (h n (by rw [<-hn];exact List.getElem_mem hl)) _
theorem alh {e:Ev} (h:aZ e=0):H7 e.kind/\H7 e.producer/\H7 e.id/\H7 e.body/\H7 e.aN/\H7 e.hno:=by
 unfold aZ at h;unfold H7
 repeat' split at h
 all_goals first
  | exact absurd h (by decide)
  | (clear h;simp only [jN,Bool.and_eq_true,decide_eq_true_eq,not_and,Classical.not_not] at*;omega)
theorem aga {r:dz} (h:aJ r=0): ∀ n∈fO r,H7 n:=by
 unfold aJ at h
 split at h
 ·cases h
 split at h
 ·cases h
 rename_i h1 h2
 simp only [jN,Bool.and_eq_true,decide_eq_true_eq,Bool.not_eq_false] at h1 h2;intro n hn;unfold fO at hn;by_cases he:jQ r.kind=true
 ·rw [if_pos he] at h hn;obtain ⟨g1,g2,g3,g4,g5,g6⟩:=alh h;simp only [List.cons_append,List.nil_append,List.mem_cons,List.not_mem_nil,or_false] at hn
  rcases hn with rfl | rfl | rfl | rfl | rfl | rfl | rfl | rfl | rfl | rfl
  any_goals assumption
  all_goals (unfold H7;omega)
 rw [if_neg he] at hn;simp only [List.append_nil,List.mem_cons,List.not_mem_nil,or_false] at hn
 rcases hn with rfl | rfl | rfl | rfl
 all_goals (unfold H7;omega)
theorem acB {r:dz} (h:aJ r=0) (he: ¬ jQ r.kind=true):r.ev=aL:=by
 unfold aJ at h
 split at h
 ·cases h
 split at h
 ·cases h
 try rw [if_neg he] at h
 split at h
 ·assumption
 cases h
theorem agb {r:dz} (h:aJ r=0):rQ (jm (fO r))=(r,0):=by
 have hr:=aga h;have h0:tk (jm (fO r)) 0=(r.kind,0):=Sz hr rfl;have hm:kD (jm (fO r))=(fO r).length:=by
  unfold kD;rw [h0];by_cases he:jQ r.kind=true
  ·rw [if_pos (show jQ (r.kind,(0:Int)).1=true from he)];unfold fO;rw [if_pos he];rfl
  rw [if_neg (show ¬ jQ (r.kind,(0:Int)).1=true from he)];unfold fO;rw [if_neg he];rfl
 have hz:xU (jm (fO r)) (fO r).length=0:=tQ λj hj=>by rw [Sz hr (List.getElem?_eq_getElem hj)]
 have hto:mU (jm (fO r)) (fO r).length=r:=by
  have hv: ∀ j n,(fO r)[j]? =some n->gW (jm (fO r)) (fO r).length j=n:=λj n hj=>by
   unfold gW;rw [if_pos (List.getElem?_eq_some_iff.1 hj).1,Sz hr hj]
  have hw: ∀ j,(fO r).length<=j->gW (jm (fO r)) (fO r).length j=0:=λj hj=>if_neg (by omega);unfold mU;rw [hv 0 r.kind rfl,hv 1 r.queue rfl,hv 2 r.epoch rfl,hv 3 r.peer rfl];by_cases he:jQ r.kind=true
  ·have hn:fO r=[r.kind,r.queue,r.epoch,r.peer,r.ev.kind,r.ev.producer,r.ev.id,r.ev.body,r.ev.aN,r.ev.hno]:=by unfold fO;rw [if_pos he];rfl
   rw [hv 4 r.ev.kind (by rw [hn];rfl),hv 5 r.ev.producer (by rw [hn];rfl),hv 6 r.ev.id (by rw [hn];rfl),hv 7 r.ev.body (by rw [hn];rfl),hv 8 r.ev.aN (by rw [hn];rfl),hv 9 r.ev.hno (by rw [hn];rfl)]
  have hn:(fO r).length=4:=by unfold fO;rw [if_neg he];rfl
  rw [hw 4 (by omega),hw 5 (by omega),hw 6 (by omega),hw 7 (by omega),hw 8 (by omega),hw 9 (by omega)];have:=acB h he;unfold aL at this;rw [<-this]
 unfold rQ;rw [hm,if_neg (by rw [hz];simp),hto,if_neg (by rw [WT hr,h];simp)]
theorem abq {r:dz} (h:aJ r=0):mK r=(jm (fO r),0):=by unfold mK;rw [if_neg (by simpa using h)]
def lq (r:dz):List UInt8:=jv (mK r).1
def bC (rs:List dz):List UInt8:=rs.flatMap lq
theorem kN (a b:List dz):bC (a++b)=bC a++bC b:=List.flatMap_append
theorem yX (r:dz):6<=(lq r).length/\(lq r).length<=46:=by
 unfold lq;rw [tT];have:=CZ r;omega
theorem LJ {p t:List UInt8} (hp:p.length<=65535) {k:Nat} (hk:2<=k):bY ((jv p).take k++t)=p.length:=by
 obtain ⟨k,rfl⟩: ∃ j,k=j+2:=⟨k-2,by omega⟩;unfold jv headed;simp only [List.cons_append,List.take_succ_cons,bY,UInt8.toNat_ofNat'];omega
theorem Rq {r:dz} (h:aJ r=0) (t:List UInt8):firstM (lq r++t)=(r,(lq r).length):=by
 have hl:=CZ r;have hfl:(lq r).length=(mK r).1.length+6:=tT _;have hpay:bY (lq r++t)=(mK r).1.length:=by
  have:=LJ (p:=(mK r).1) (t:=t) (by omega) (k:=(lq r).length) (by omega);rwa [show List.take (lq r).length (jv (mK r).1)=lq r from List.take_length] at this
 have hlen:(lq r++t).length=(mK r).1.length+6+t.length:=by rw [List.length_append,hfl]
 have hpl:((lq r++t).drop 2).take (bY (lq r++t))=(mK r).1:=by
  rw [hpay];unfold lq jv headed;simp
 have hd:rQ (mK r).1=(r,0):=by rw [abq h];exact agb h
 rw [Og (by omega) (by rw [hpay];omega) (by rw [hpl,hd]) (by rw [hpl,hpay,<-hfl,List.take_left];rfl),hpl,hd,hpay,hfl]
theorem Vb {r:dz} {k:Nat} (hk:k< (lq r).length):(firstM ((lq r).take k)).2=0:=by
 have hl:=CZ r;have hfl:(lq r).length=(mK r).1.length+6:=tT _;have h2:((lq r).take k).length=k:=by rw [List.length_take];omega
 by_cases hs:k<2
 ·rw [yc (by omega)];rfl
 have hpay:=LJ (p:=(mK r).1) (t:=[]) (by omega) (k:=k) (by omega);rw [List.append_nil] at hpay;have apC:bY ((lq r).take k)=(mK r).1.length:=hpay;rw [Jq (by omega) (by rw [h2,apC];omega)];rfl
theorem xk: ∀ {rs:List dz} {t:List UInt8},(∀ r∈rs,aJ r=0)->(firstM t).2=0->bL (bC rs++t)=(rs,(bC rs).length)
 | [],t,_,ht=>FU (by simpa [bC] using ht)
 | r::rs,t,h,ht=>by
  have e:bC (r::rs)++t=lq r++(bC rs++t):=by simp [bC,List.flatMap_cons]
  have hf:=Rq (h r (by simp)) (bC rs++t);have hlen:=yX r;rw [e,LD (by rw [hf];show ¬ (lq r).length=0;omega),hf];simp only [List.drop_left];rw [xk (λx hx=>h x (by simp [hx])) ht];simp [bC,List.flatMap_cons]
theorem wm:(firstM []).2=0:=by rw [yc (by simp)];rfl
theorem LK: ∀ (rs:List dz) (k:Nat),k<=(bC rs).length-> ∃ j t,(bC rs).take k=bC (rs.take j)++t/\(firstM t).2=0/\j<=rs.length
 | [],k,_=>⟨0,[],by simp [bC],wm,Nat.le_refl _⟩
 | r::rs,k,hk=>by
  have e:bC (r::rs)=lq r++bC rs:=by simp [bC,List.flatMap_cons]
  by_cases h:k< (lq r).length
  ·refine ⟨0,(lq r).take k,?_,Vb h,Nat.zero_le _⟩;rw [e,List.take_append_of_le_length (by omega)];simp [bC]
  rw [e,List.length_append] at hk;obtain ⟨j,t,h1,h2,h3⟩:=LK rs (k-(lq r).length) (by omega);refine ⟨j+1,t,?_,h2,by simp;omega⟩;rw [e,List.take_append,List.take_of_length_le (by omega),h1];simp [bC,List.flatMap_cons]
theorem acC {l:List UInt8} {s:Int} {r:dz} (h:aJ r=0) (h0:0<=s) (h1:s<=l.length) (hl:l.length+46<=100000):iF l s r=(l++lq r,s,0):=by
 unfold iF;have:=yX r;rw [if_neg (by simp [cu];omega),if_neg (by rw [abq h];simp),if_neg (by show ¬ _<_+(lq r).length;omega)];rfl
theorem LM {l:List UInt8} {s:Int} {r:dz} (h:(iF l s r).2.2=0):iF l s r=(l++lq r,s,0)/\aJ r=0/\l.length+(lq r).length<=100000:=by
 unfold iF at h⊢
 split at h
 ·cases h
 split at h
 ·rename_i h2;exact absurd h h2
 split at h
 ·cases h
 rename_i h1 h2 h3
 rw [if_neg h1,if_neg h2,if_neg h3];refine ⟨rfl,?_,by show _+(jv (mK r).1).length<=_;omega⟩;unfold mK at h2
 split at h2
 ·exact Classical.not_not.1 h2
 rename_i h4;exact Classical.not_not.1 h4
end Go.Proofs.YtbffmhpkenoogaaGreatDoor
