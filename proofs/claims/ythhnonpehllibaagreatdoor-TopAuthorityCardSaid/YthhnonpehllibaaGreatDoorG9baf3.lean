import Derived.Test.YthhnonpehllibaaGreatDoorG8e63f
import Derived.Test.YthhnonpehllibaaGreatDoorGa1a24
import Derived.Test.YthhnonpehllibaaGreatDoorGb1a9f
set_option maxRecDepth 100000
set_option maxHeartbeats 8000000
namespace Go.Proofs.YthhnonpehllibaaGreatDoor
open ChangeShapes WideShapes RowKit
def pO (l:List UInt8):Int:=l.foldl (λs c=>s*256+(c.toNat:Int)) 0
theorem ZI (l:List UInt8) (c:UInt8):pO (l++[c])=pO l*256+c.toNat:=by simp [pO]
theorem ahu: ∀ (l:List UInt8),l.length<=4->0<=pO l/\pO l<=4294967295
 | [],_=>by simp [pO]
 | [a],_=>by have:=u8_in a;simp [pO];omega
 | [a,b],_=>by have:=u8_in a;have:=u8_in b;simp [pO];omega
 | [a,b,c],_=>by have:=u8_in a;have:=u8_in b;have:=u8_in c;simp [pO];omega
 | [a,b,c,d],_=>by have:=u8_in a;have:=u8_in b;have:=u8_in c;have:=u8_in d;simp [pO];omega
 | _::_::_::_::_::_,h=>by simp at h
def Cw:dF×Nat:=(o8,0)
def cK (b:List UInt8):Nat:=match b with
 | x::y::_=>x.toNat*256+y.toNat
 | _=>0
def firstM (b:List UInt8):dF×Nat:=
 if b.length<2 then Cw else if b.length<cK b+6 then Cw else if pO ((b.drop (2+cK b)).take 4)≠zJ (b.take (2+cK b)) then Cw
 else if (sV ((b.drop 2).take (cK b))).2≠0 then Cw else ((sV ((b.drop 2).take (cK b))).1,cK b+6)
section
variable {b:List UInt8}
theorem zf (h:b.length<2):firstM b=Cw:=if_pos h
theorem KI (h: ¬ b.length<2) (h1:b.length<cK b+6):firstM b=Cw:=by unfold firstM;rw [if_neg h,if_pos h1]
theorem WV (h: ¬ b.length<2) (h1: ¬ b.length<cK b+6) (h2:pO ((b.drop (2+cK b)).take 4)≠zJ (b.take (2+cK b))):firstM b=Cw:=by unfold firstM;rw [if_neg h,if_neg h1,if_pos h2]
theorem WW (h: ¬ b.length<2) (h1: ¬ b.length<cK b+6) (h2:pO ((b.drop (2+cK b)).take 4)=zJ (b.take (2+cK b))) (h3:(sV ((b.drop 2).take (cK b))).2≠0):firstM b=Cw:=by
 unfold firstM;rw [if_neg h,if_neg h1,if_neg (by simpa using h2),if_pos h3]
theorem ND (h: ¬ b.length<2) (h1: ¬ b.length<cK b+6) (h2:pO ((b.drop (2+cK b)).take 4)=zJ (b.take (2+cK b))) (h3:(sV ((b.drop 2).take (cK b))).2=0):firstM b=((sV ((b.drop 2).take (cK b))).1,cK b+6):=by
 unfold firstM;rw [if_neg h,if_neg h1,if_neg (by simpa using h2),if_neg (by simpa using h3)]
theorem xH:(firstM b).2<=b.length:=by
 unfold firstM Cw
 split
 ·exact Nat.zero_le _
 split
 ·exact Nat.zero_le _
 split
 ·exact Nat.zero_le _
 split
 ·exact Nat.zero_le _
 simp;omega
theorem amG {x y:UInt8} (hx:b[0]? =some x) (hy:b[1]? =some y):cK b=x.toNat*256+y.toNat:=by
 match b,hx,hy with
 | x'::y'::r,hx,hy=>
  simp at hx hy;subst hx;subst hy;rfl
 | [_],_,hy=>simp at hy
end
def qd:Nat->List UInt8->List dF×Nat
 | 0,_=>([],0)
 | f+1,b=>if (firstM b).2=0 then ([],0) else ((firstM b).1::(qd f (b.drop (firstM b).2)).1,(firstM b).2+(qd f (b.drop (firstM b).2)).2)
theorem Hg: ∀ (f g:Nat) (b:List UInt8),b.length<f->b.length<g->qd f b=qd g b
 | 0,_,b,h,_=>absurd h (by omega)
 | _,0,b,_,h=>absurd h (by omega)
 | f+1,g+1,b,hf,hg=>by
  unfold qd;by_cases h:(firstM b).2=0
  ·rw [if_pos h,if_pos h]
  rw [if_neg h,if_neg h,Hg f g _ (by rw [List.length_drop];have:= @xH b;omega) (by rw [List.length_drop];have:= @xH b;omega)]
def bQ (b:List UInt8):List dF×Nat:=qd (b.length+1) b
theorem Hl {b:List UInt8} (h:(firstM b).2=0):bQ b=([],0):=by unfold bQ qd;rw [if_pos h]
theorem NH {b:List UInt8} (h: ¬ (firstM b).2=0):bQ b=((firstM b).1::(bQ (b.drop (firstM b).2)).1,(firstM b).2+(bQ (b.drop (firstM b).2)).2):=by
 unfold bQ;rw [qd,if_neg h,Hg b.length ((b.drop (firstM b).2).length+1) _ (by rw [List.length_drop];have:= @xH b;omega) (by omega)]
theorem NI: ∀ (f:Nat) (b:List UInt8),(qd f b).2<=b.length/\(qd f b).1.length<=b.length
 | 0,b=>by simp [qd]
 | f+1,b=>by
  unfold qd
  split
  ·simp
  rename_i h
  have h1:=NI f (b.drop (firstM b).2);rw [List.length_drop] at h1;have h2:= @xH b;simp;omega
def uD (l:List UInt8) (s:Int):List dF×Nat×Int:=if cO l s=true then ((bQ l).1,(bQ l).2,0) else ([],0,6)
def dF.cells (r:dF):List Value:=[iV r.kind,iV r.queue,iV r.epoch,iV r.peer,iV r.ev.kind,iV r.ev.producer,iV r.ev.id,iV r.ev.body,iV r.ev.aR,iV r.ev.hno]
def adQ (w:World) (r:List dF×Nat×Int) (e:Ending) (w':World):Prop:=
 ∃ A c,e= .returned (.tuple #[.slice A r.1.length c,iV (r.2.1:Int),iV r.2.2])/\St w.heap.size w w' [.own 124 10 (.slice A r.1.length c) r.1.length (r.1.flatMap dF.cells)]
def Lp (x:UInt8):List Value:=[.int .u8 x.toNat]
theorem RU (l:List UInt8):byteCells l=l.flatMap Lp:=by
 induction l with
 | nil=>rfl
 | cons a l ih=>rw [List.flatMap_cons,<-ih];rfl
theorem anI {w:World} {B:Nat} {A:Option Addr} {n:Nat} {l:List UInt8} (h:Rd w B 1 A n (byteCells l)):Rd w B 1 A n (l.flatMap Lp):=RU l▸h
theorem ajS {w:World} {B:Nat} {A:Option Addr} {n:Nat} {l:List UInt8} (h:Rd w B 1 A n (l.flatMap Lp)):Rd w B 1 A n (byteCells l):=(RU l).symm▸h
theorem acM {l:List UInt8}:(l.take 4).take 4=l.take 4:=by simp [List.take_take]
theorem ZJ {l:List UInt8} {k:Nat} {x:UInt8} (h:l[k]? =some x):pO (l.take k)*256+(x.toNat:Int)=pO (l.take (k+1)):=by
 rw [List.take_add_one,h,<-ZI];rfl
def ZK (w:World) (r:dF×Nat) (e:Ending) (w':World):Prop:=e= .returned (.tuple #[r.1.val,iV (r.2:Int)])/\Below w.heap.size w w'
theorem TL (A:Option Addr) (c:Nat) (b:List UInt8) (w:World) (h:Rd w w.heap.size 1 A b.length (byteCells b)) (hn:b.length<=c) (hcm:c<=9223372036854775807) (hb:b.length<=100000):
    Calls Tryz.prog 53 #[.slice A b.length c] w (ZK w (firstM b)):=by
 have S:=(St.start w).bV (anI h);refine gu 69 Tryz.func53 ?_;refine cw [0] ?_;refine zN 2 ?_;refine fF S wX ?_;intro b1 w2 S3;refine zN 8 ?_;by_cases h4:((b.length:Nat):Int)<2
 ·refine zN 7 ?_;refine sa 0 S3 ko ?_;intro w5 S6;refine zN 6 ?_;exact ⟨by rw [zf (by omega)];rfl,S6.low⟩
 refine zN 7 ?_;refine fC S3 mixed (by kernel_rfl) ?_;refine zQ ?_;obtain ⟨b8,o9,rfl⟩:=Rd.addr (St.rd 1 S3 rfl) (by omega);obtain ⟨x10,Vu⟩:=KG 0 (St.rd 1 S3 rfl) (by omega);refine uv (λ_ _=>jd 0) ?_;refine uv (v:= .int .u8 ((x10).toNat:Int)) (λ_ Q7=>(aj rfl rfl (ay Tryz.underlying5 rfl (Rd.RG (i:=0) (St.rd 1 Q7 rfl) (aZ (enc:=Lp) (sz:=1) (λ_=>rfl) Vu rfl))))) ?_;refine uv (v:=iV ((x10).toNat:Int)) (λ_ _=>(F6 rfl rfl (OZ (a:=x10) rfl (by kernel_rfl)))) ?_;have ay7:=u8_in x10;refine uv (v:=iV (((x10).toNat:Int)*256)) (λ_ _=>(aL rfl rfl rfl (acz rfl (by omega) (by omega)))) ?_;refine uv (v:=iV (2+(((x10).toNat:Int)*256))) (λ_ _=>gD) ?_;refine zQ ?_;obtain ⟨x19,anJ⟩:=KG 1 (St.rd 1 S3 rfl) (by omega);refine uv (λ_ _=>jd 1) ?_;refine uv (v:= .int .u8 ((x19).toNat:Int)) (λ_ Gb=>(aj rfl rfl (ay Tryz.underlying5 rfl (Rd.RG (i:=0) (St.rd 1 Gb rfl) (aZ (enc:=Lp) (sz:=1) (λ_=>rfl) anJ rfl))))) ?_;refine uv (v:=iV ((x19).toNat:Int)) (λ_ _=>(F6 rfl rfl (OZ (a:=x19) rfl (by kernel_rfl)))) ?_;have ay8:=u8_in x19;have ay9:=amG Vu anJ;have aza:cK b<=65535:=by omega
 refine uv (v:=iV ((2+cK b:Nat):Int)) (λ_ _=>(aL rfl rfl rfl (by rw [show ((2+cK b:Nat):Int)=2+(((x10).toNat:Int)*256)+((x19).toNat:Int) by omega];exact yV (by omega) (by omega)))) ?_;refine zQ ?_;refine eT λYo sM=>?_;refine zN 7 ?_;refine vv (v:=iV (((2+cK b)+4:Nat):Int)) gD ?_;by_cases h30:((b.length:Nat):Int)< (((2+cK b)+4:Nat):Int)
 ·refine zN 7 ?_;refine sa 0 sM ko ?_;intro Yx mK;refine zN 6 ?_;exact ⟨by rw [KI (by omega) (by omega)];rfl,mK.low⟩
 refine zN 17 ?_;refine vv (v:=iV (((2+cK b)+4:Nat):Int)) gD ?_;refine zQ ?_;refine vv (v:=iV (((2+cK b)+4:Nat):Int)) gD ?_;obtain ⟨A33,atV,ajT⟩:=Nq (b:=b) (c:=c) (lo:=(some (iV ((2+cK b:Nat):Int)))) (hi:=(some (iV (((2+cK b)+4:Nat):Int)))) (mx:=(some (iV (((2+cK b)+4:Nat):Int)))) (l:=2+cK b) (k:=2+cK b+4) (q:=2+cK b+4) (m:=4) (c':=4) Tryz.underlying81 Vk (acy (2+cK b) (2+cK b+4) (2+cK b+4) rfl rfl rfl (by omega) (by omega) (by omega)) (ajS (show Rd _ _ _ _ _ _ from sM.all 1 _ rfl)) (by omega) (by omega) (by omega) (by omega) (by omega)
 replace ajT:Rd _ _ _ _ _ (((b.drop (2+cK b)).take 4).flatMap Lp):=anI ajT
 have nW:=sM.bV ajT;refine vv (v:= .slice A33 4 4) (jH rfl rfl (iY rfl) (iY rfl) (iY rfl) (atV _)) ?_;refine zN 5 ?_;refine dN (X:=Nat) (λxv=>[(0,.slice (some ⟨b8,o9,none⟩) b.length c),(2,.pointer (some ⟨b1,0,none⟩)),(3,iV 0),(4,iV ((2+cK b:Nat):Int)),(37,.slice A33 4 4),(38,iV 4),(5,iV (pO (((b.drop (2+cK b)).take 4).take xv))),(39,iV ((xv:Nat):Int))]) (λxv wr=>(xv<=4)/\St w.heap.size w wr [.rd 1 A33 4 (((b.drop (2+cK b)).take 4).flatMap Lp),.blk b1 #[iV 0,iV 0,iV 0,iV 0,iV 0,iV 0,iV 0,iV 0,iV 0,iV 0] 124,.rd 1 (some ⟨b8,o9,none⟩) b.length ((b).flatMap Lp)]) (λxv=>4-xv) (0) ?_ ?_ ?_
 ·exact ⟨Nat.zero_le _,nW⟩
 ·exact ⟨rfl,rfl,rfl,rfl,rfl,rfl,rfl,rfl,trivial⟩
 rintro k Yy ⟨Q8,sD⟩
 try dsimp only at Q8 sD
 refine bC (l':=[(0,.slice (some ⟨b8,o9,none⟩) b.length c),(2,.pointer (some ⟨b1,0,none⟩)),(3,iV 0),(4,iV ((2+cK b:Nat):Int)),(37,.slice A33 4 4),(38,iV 4),(5,iV (pO (((b.drop (2+cK b)).take 4).take k))),(39,iV ((k:Nat):Int))]) ⟨rfl,rfl,rfl,rfl,rfl,rfl,rfl,rfl,trivial⟩ (aK (aC ?_));by_cases h40:((k:Nat):Int)<4
 ·refine zN 11 ?_;obtain ⟨b41,o42,rfl⟩:=Rd.addr (St.rd 0 sD rfl) (by omega);obtain ⟨x43,anK⟩:=KG k (St.rd 0 sD rfl) (by omega);refine vv (jd k) ?_;refine vv (aj rfl rfl (ay Tryz.underlying5 rfl (Rd.RG (i:=0) (St.rd 0 sD rfl) (aZ (enc:=Lp) (sz:=1) (λ_=>rfl) anK rfl)))) ?_;refine zN 5 ?_;have azb:=ahu (((b.drop (2+cK b)).take 4).take k) (by simp;omega);refine vv (v:=iV (pO (((b.drop (2+cK b)).take 4).take k)*256)) (aL rfl rfl rfl (acz rfl (by omega) (by omega))) ?_;refine zQ ?_;refine vv (v:=iV ((x43).toNat:Int)) (F6 rfl rfl (OZ (a:=x43) rfl (by kernel_rfl))) ?_;have azc:=u8_in x43;refine vv (v:=iV (pO (((b.drop (2+cK b)).take 4).take k)*256+((x43).toNat:Int))) (aL rfl rfl rfl (apU rfl (by omega) (by omega) (by omega) (by omega))) ?_;refine zN 5 ?_;refine vv (v:=iV ((k+1:Nat):Int)) gD ?_;refine zN 2 ?_;refine aN (k+1) ?_ ⟨rfl,rfl,rfl,rfl,rfl,rfl,(alm (ZJ anK)),rfl,trivial⟩ (by first | omega | (dsimp only;omega));exact ⟨(by omega),sD⟩
 refine zN 16 ?_;obtain ⟨Mv,atW,ajU⟩:=Nq (b:=b) (c:=c) (lo:=none) (hi:=(some (iV ((2+cK b:Nat):Int)))) (mx:=none) (l:=0) (k:=2+cK b) (q:=c) (m:=2+cK b) (c':=c) Tryz.underlying81 Vk (asF (2+cK b) rfl (by omega)) (ajS (show Rd _ _ _ _ _ _ from sD.all 2 _ rfl)) (by omega) (by omega) (by omega) (by omega) (by omega)
 replace ajU:Rd _ _ _ _ _ (byteCells (b.take (2+cK b))):=ajU
 have vS:=sD.bV ajU;refine vv (v:= .slice Mv (2+cK b) c) (jH rfl rfl mh (iY rfl) mh (atW _)) ?_;refine dH aqg (M9 _ _ _ (b.take (2+cK b)) _ (St.rd 0 vS rfl) (by omega)) ?_;rintro _ Yr ⟨rfl,q53,rfl⟩;refine ⟨_,rfl,?_⟩;have oq:=vS.drewN q53;obtain rfl:k=4:=by omega
 by_cases h54:pO ((b.drop (2+cK b)).take 4)=zJ (b.take (2+cK b))
 ·refine vv (v:= .bool false) (aL rfl rfl rfl (Io (by rw [acM];exact h54))) ?_;refine zN 9 ?_;obtain ⟨A55,atX,ajV⟩:=Nq (b:=b) (c:=c) (lo:=(some (iV 2))) (hi:=(some (iV ((2+cK b:Nat):Int)))) (mx:=none) (l:=2) (k:=2+cK b) (q:=c) (m:=cK b) (c':=c-2) Tryz.underlying81 Vk (Vj 2 (2+cK b) rfl rfl (by omega) (by omega)) (ajS (show Rd _ _ _ _ _ _ from oq.all 3 _ rfl)) (by omega) (by omega) (by omega) (by omega) (by omega)
  replace ajV:Rd _ _ _ _ _ (byteCells ((b.drop 2).take (cK b))):=ajV
  have Dc:=oq.bV ajV;refine vv (v:= .slice A55 (cK b) (c-2)) (jH rfl rfl (iY rfl) (iY rfl) mh (atX _)) ?_;refine cab aqh Dc (PS A55 (cK b) (c-2) ((b.drop 2).take (cK b)) _ (St.rd 0 Dc rfl) (by omega) (by unfold maxLen;omega)) ?_;intro w59 Qf;refine zN 3 ?_;refine fF Qf wX ?_;intro b62 w63 S64;refine sa 0 S64 ko ?_;intro w65 Gd;refine zN 7 ?_;by_cases Bh:(sV ((b.drop 2).take (cK b))).2=0
  ·refine zN 10 ?_;refine vv (v:=iV (((2+cK b)+4:Nat):Int)) gD ?_;refine sa 4 Gd ko ?_;intro w68 vI;refine zN 5 ?_;exact ⟨by rw [ND (by omega) (by omega) h54 Bh];exact congrArg Ending.returned (by show Value.tuple #[_,iV _]=Value.tuple #[_,iV _];rw [show ((2+cK b+4:Nat):Int)=((cK b+6:Nat):Int) by omega];rfl),vI.low⟩
  refine zN 7 ?_;refine sa 4 Gd ko ?_;intro ZG rG;refine zN 6 ?_;exact ⟨by rw [WW (by omega) (by omega) h54 Bh];rfl,rG.low⟩
 refine vv (v:= .bool true) (aL rfl rfl rfl (OV (by rw [acM];exact h54))) ?_;refine zN 6 ?_;refine sa 2 oq ko ?_;intro w72 tT;refine zN 6 ?_;exact ⟨by rw [WV (by omega) (by omega) h54];rfl,tT.low⟩
theorem NJ {w:World} {base:Nat} {e:TypeId} {size:Nat} {A:Option Addr} {n c:Nat} {xs:List Value} (h:w.ownsRow base e size (.slice A n c) n xs):n<=c/\c<=maxLen:=by
 obtain ⟨A',c',e1,h1,h2⟩:=lZ h
 cases e1;exact ⟨h1,h2⟩
theorem Qg {l:List UInt8}:bQ l=([]++(bQ (l.drop 0)).1,0+(bQ (l.drop 0)).2):=by simp
theorem TM {l:List UInt8} {acc:List dF} {p:Nat} (h:bQ l=(acc++(bQ (l.drop p)).1,p+(bQ (l.drop p)).2)) (h1: ¬ (firstM (l.drop p)).2=0):
  bQ l=(acc++[(firstM (l.drop p)).1]++(bQ (l.drop (p+(firstM (l.drop p)).2))).1,p+(firstM (l.drop p)).2+(bQ (l.drop (p+(firstM (l.drop p)).2))).2):=by
 rw [h,NH h1,List.drop_drop,List.append_assoc,Nat.add_assoc];rfl
theorem ZL {l:List UInt8} {s:Int} {acc:List dF} {p:Nat} (hm:cO l s=true) (h:bQ l=(acc++(bQ (l.drop p)).1,p+(bQ (l.drop p)).2)) (h1:(firstM (l.drop p)).2=0):uD l s=(acc,p,0):=by
 unfold uD;rw [if_pos hm,h,Hl h1];simp
theorem Dl (A:Option Addr) (c:Nat) (l:List UInt8) (s:Int) (w:World) (h:Rd w w.heap.size 1 A l.length (byteCells l)):
    Calls Tryz.prog 35 #[.agg #[.slice A l.length c,iV s]] w (adQ w (uD l s)):=by
 have S:=(St.start w).bV h;refine gu 37 Tryz.func35 ?_;refine cw [0] ?_;refine zN 2 ?_;refine iK S ?_;intro b1 w2 S3;refine zN 8 ?_
 rcases zV l s with ⟨ho,hm⟩ | ⟨ho,hm⟩
 ·have HO:=λw h=>kZ A l.length c l s w h;rw [ho] at HO;refine dH abR (HO _ (St.rd 1 S3 rfl)) ?_;rintro _ w8 ⟨A4,c5,rfl,hb6,hO7⟩;refine ⟨_,rfl,?_⟩;have S9:=S3.um hb6 hO7;clear HO hb6 hO7 S3;change St _ _ _ [.own 5 1 (.slice A4 l.length c5) l.length (byteCells l),.blk b1 #[.slice A l.length c,iV s] 83,.rd 1 A l.length (byteCells l)] at S9;have hcap:=NJ (S9.own 0 rfl);unfold maxLen at hcap;have hlen:l.length<=100000:=(ou hm).1;refine zN 3 ?_;refine fF S9 yY ?_;intro b10 Jp mJ;refine sa 0 mJ fD ?_;intro DT kr;refine zN 15 ?_;have gJ:=kr.nil 124 10;refine zN 9 ?_;have kN:=gJ.aS [4];refine dN (X:=(List dF)×Nat×Nat×(Option Addr)×Nat) (λxv=>[(2,.slice none 0 0),(3,iV 0),(4,iV 0),(5,.pointer (some ⟨b10,0,none⟩)),(7,.slice xv.2.2.2.1 xv.2.2.1 xv.2.2.2.2),(8,iV ((xv.2.1:Nat):Int))]) (λxv wr=>(bQ l=(xv.1++(bQ (l.drop xv.2.1)).1,xv.2.1+(bQ (l.drop xv.2.1)).2))/\(xv.2.1<=l.length)/\(xv.2.2.1<=xv.2.1)/\(xv.2.2.1=xv.1.length)/\St w.heap.size w wr [.own 124 10 (.slice xv.2.2.2.1 xv.2.2.1 xv.2.2.2.2) xv.2.2.1 ((xv.1).flatMap dF.cells),.blk b10 #[.slice A4 l.length c5,iV s] 83,.own 5 1 (.slice A4 l.length c5) l.length (byteCells l),.blk b1 #[.slice A l.length c,iV s] 83]) (λxv=>l.length-xv.2.1) ([],0,0,none,0) ?_ ?_ ?_
  ·exact ⟨Qg,Nat.zero_le _,Nat.le_refl _,rfl,kN⟩
  ·exact ⟨rfl,rfl,rfl,rfl,rfl,rfl,trivial⟩
  rintro ⟨acc,p,m,A9,c9⟩ Jq ⟨ZM,afx,hi21,hi22,iL⟩
  try dsimp only at ZM afx hi21 hi22 iL
  refine bC (l':=[(2,.slice none 0 0),(3,iV 0),(4,iV 0),(5,.pointer (some ⟨b10,0,none⟩)),(7,.slice A9 m c9),(8,iV ((p:Nat):Int))]) ⟨rfl,rfl,rfl,rfl,rfl,rfl,trivial⟩ (Ei (aK (aC (vv (vR 0 X9) ?_))));refine zN 2 ?_;obtain ⟨A23,atY,anL⟩:=Nq (b:=l) (c:=c5) (lo:=(some (iV ((p:Nat):Int)))) (hi:=none) (mx:=none) (l:=p) (k:=l.length) (q:=c5) (m:=(l.drop p).length) (c':=c5-p) Tryz.underlying81 Vk (afo p rfl (by omega)) (St.ord 2 iL rfl) (by omega) (by omega) (by omega) List.length_drop.symm rfl;rw [List.take_length] at anL;refine vv (v:= .slice A23 ((l.drop p).length) (c5-p)) (jH rfl rfl (iY rfl) mh mh (atY _)) ?_;refine dH ap9 (TL A23 (c5-p) (l.drop p) _ anL (by rw [List.length_drop];omega) (by omega) (by rw [List.length_drop];omega)) ?_;rintro _ NA ⟨rfl,afy⟩;refine ⟨_,rfl,?_⟩;have tQ:=iL.on afy;clear afy iL;have hfl:= @xH (l.drop p);rw [List.length_drop] at hfl;refine zN 3 ?_;refine fF tQ wX ?_;intro b29 RS kW;refine sa 0 kW ko ?_;intro w32 qx;refine zN 7 ?_;by_cases h34:(((firstM (l.drop p)).2:Nat):Int)=0
  ·refine zN 19 ?_;have sO:=qx.aS [4,3,2,0];have hz:uD l s=(acc,p,0):=ZL hm ZM (by omega);rw [hz];subst hi22;exact ⟨_,_,rfl,sO⟩
  refine zN 10 ?_;refine Zu qx ?_;intro uE Yy sD;refine eB (news:=[iV ((firstM (l.drop p)).1.kind),iV ((firstM (l.drop p)).1.queue),iV ((firstM (l.drop p)).1.epoch),iV ((firstM (l.drop p)).1.peer),iV ((firstM (l.drop p)).1.ev.kind),iV ((firstM (l.drop p)).1.ev.producer),iV ((firstM (l.drop p)).1.ev.id),iV ((firstM (l.drop p)).1.ev.body),iV ((firstM (l.drop p)).1.ev.aR),iV ((firstM (l.drop p)).1.ev.hno)]) (xs':=(acc++[(firstM (l.drop p)).1]).flatMap dF.cells) 2 sD (wn rfl) rfl rfl rfl rfl rfl rfl (St.lY (xs:=[iV ((firstM (l.drop p)).1.kind),iV ((firstM (l.drop p)).1.queue),iV ((firstM (l.drop p)).1.epoch),iV ((firstM (l.drop p)).1.peer),iV ((firstM (l.drop p)).1.ev.kind),iV ((firstM (l.drop p)).1.ev.producer),iV ((firstM (l.drop p)).1.ev.id),iV ((firstM (l.drop p)).1.ev.body),iV ((firstM (l.drop p)).1.ev.aR),iV ((firstM (l.drop p)).1.ev.hno)]) 0 sD rfl rfl rfl) Tryz.underlying112 O5 rfl (by decide) (bX rfl) (by simp only [maxLen];omega) (by omega) (jO (enc:=dF.cells) rfl rfl) ?_;intro Ho c40 w41 azd aze pE;refine zN 6 ?_;refine vv (v:=iV ((p+((firstM (l.drop p)).2):Nat):Int)) gD ?_;refine zN 3 ?_;have oH:=pE.aS [1,0];refine aN (acc++[(firstM (l.drop p)).1],p+(firstM (l.drop p)).2,m+1,Ho,c40) ?_ ⟨rfl,rfl,rfl,rfl,rfl,rfl,trivial⟩ (by first | omega | (dsimp only;omega));exact ⟨(TM ZM (by omega)),(by dsimp only;omega),(by dsimp only;omega),(by dsimp only;simp [hi22]),oH⟩
 have HO:=λw h=>kZ A l.length c l s w h;rw [ho] at HO;refine dH abR (HO _ (St.rd 1 S3 rfl)) ?_;rintro _ UL ⟨A46,c47,rfl,hb48,anM⟩;refine ⟨_,rfl,?_⟩;have uy:=S3.um hb48 anM;clear HO hb48 anM S3;refine zN 3 ?_;refine fF uy yY ?_;intro b52 w53 mM;refine sa 0 mM fD ?_;intro w55 Fh;refine zN 21 ?_;have pW:=Fh.aS [3,2,1,0];rw [show uD l s=([],0,6) from if_neg (by rw [hm];simp)];exact ⟨none,0,rfl,pW.nil 124 10⟩
theorem ahv {l:List UInt8} {s:Int} (h:cO l s=true):H9 l s=(l,s,true):=by
 rcases zV l s with ⟨h1,_⟩ | ⟨_,h1⟩
 ·exact h1
 rw [h] at h1;cases h1
def jG (l:List UInt8) (s:Int):List UInt8×Int×Int:=if cO l s=true then (l.take (bQ l).2,min s (bQ l).2,0) else ([],0,6)
def ahw (w:World) (r:List UInt8×Int×Int) (e:Ending) (w':World):Prop:=
 ∃ A c,e= .returned (.tuple #[.agg #[.slice A r.1.length c,iV r.2.1],iV r.2.2])/\St w.heap.size w w' [.cB 1 A r.1.length (byteCells r.1)]
theorem Qh (A:Option Addr) (c:Nat) (l:List UInt8) (s:Int) (w:World) (h:Rd w w.heap.size 1 A l.length (byteCells l)):
    Calls Tryz.prog 34 #[.agg #[.slice A l.length c,iV s]] w (ahw w (jG l s)):=by
 have S:=(St.start w).bV h;refine gu 34 Tryz.func34 ?_;refine cw [0] ?_;refine zN 2 ?_;refine iK S ?_;intro b1 w2 S3;refine fF S3 yY ?_;intro b4 w5 S6;refine zN 6 ?_;have hle:=NI (l.length+1) l;rw [<-show bQ l=qd (l.length+1) l from rfl] at hle
 cases hm:cO l s
 ·have HR:=λw h=>Dl A c l s w h;rw [show uD l s=([],0,6) from if_neg (by rw [hm];simp)] at HR;refine dH ajH (HR _ (St.rd 2 S6 rfl)) ?_;rintro _ w9 ⟨A7,c8,rfl,T11⟩;refine ⟨_,rfl,?_⟩;have oG:=S6.ext T11 rfl;change St _ _ _ [.own 124 10 (.slice A7 (([]:List dF).length) c8) (([]:List dF).length) ((([]:List dF)).flatMap dF.cells),_,_,_] at oG;refine zN 21 ?_;refine sa 1 oG fD ?_;intro ZE wD;refine zN 6 ?_;have kr:=wD.aS [3,2,1,0];rw [show jG l s=([],0,6) from if_neg (by rw [hm];simp)];exact ⟨none,0,rfl,aG kr⟩
 have HR:=λw h=>Dl A c l s w h;rw [show uD l s=((bQ l).1,(bQ l).2,0) from if_pos hm] at HR;have hlen:l.length<=100000:=(ou hm).1;refine dH ajH (HR _ (St.rd 2 S6 rfl)) ?_;rintro _ Jq ⟨A15,c16,rfl,T19⟩;refine ⟨_,rfl,?_⟩;have iL:=S6.ext T19 rfl;change St _ _ _ [.own 124 10 (.slice A15 ((bQ l).1.length) c16) ((bQ l).1.length) (((bQ l).1).flatMap dF.cells),_,_,_] at iL;refine zN 8 ?_;refine UE (vv (v:=iV 0) ym ?_);refine vv aqu ?_;refine zN 8 ?_;have HO:=λw h=>kZ A l.length c l s w h;rw [ahv hm] at HO;refine dH abR (HO _ (St.rd 3 iL rfl)) ?_;rintro _ Mw ⟨A20,c21,rfl,ZN,anN⟩;refine ⟨_,rfl,?_⟩;have jA:=iL.um ZN anN;clear HO ZN anN iL;change St _ _ _ [.own 5 1 (.slice A20 l.length c21) l.length (byteCells l),.own 124 10 (.slice A15 ((bQ l).1.length) c16) ((bQ l).1.length) (((bQ l).1).flatMap dF.cells),.blk b4 #[.slice none 0 0,iV 0] 83,.blk b1 #[.slice A l.length c,iV s] 83,.rd 1 A l.length (byteCells l)] at jA;have hcap:=NJ (jA.own 0 rfl);unfold maxLen at hcap;refine zN 3 ?_;refine fF jA yY ?_;intro Qe NC rH;refine sa 0 rH fD ?_;intro ZO sP;refine zN 4 ?_;have kW:=sP.drew;refine fq 12 10 kW [] ?_;iterate 4 refine gM ?_
 obtain ⟨A36,atZ,at0,at1⟩:=ags (b:=l) (A:=A20) (c:=c21) (lo:=none) (hi:=some (iV (((bQ l).2:Nat):Int))) (mx:=some (iV (((bQ l).2:Nat):Int))) (l:=0) (k:=(bQ l).2) (q:=(bQ l).2) (m:=(bQ l).2) (c':=(bQ l).2) Tryz.underlying81 Vk (abN ((bQ l).2) ((bQ l).2) rfl rfl (Nat.le_refl _) (by omega)) (by omega) (by omega) (by omega) rfl rfl;refine gk (v:= .slice A36 ((bQ l).2) ((bQ l).2)) 4 rfl kW (λ_ _=>(jH rfl rfl mh (iY rfl) (iY rfl) (atZ _))) ?_;iterate 3 refine gM ?_
 refine DI (v:=iV (min s ((((bQ l).2:Nat):Int)))) (i:=8) (m:=3) rfl (by kernel_rfl) (by kernel_rfl) (by kernel_rfl) rfl (by kernel_rfl) rfl kW rfl (wn rfl) rfl rfl (λ_ _=>(qF (vs:=[iV s,iV (((bQ l).2:Nat):Int)]) rfl ⟨rfl,rfl,trivial⟩ λ_=>aiN)) ?_;refine DI (v:= .agg #[.slice A36 ((bQ l).2) ((bQ l).2),iV (min s ((((bQ l).2:Nat):Int)))]) (i:=9) (m:=2) rfl (by kernel_rfl) (by kernel_rfl) (by kernel_rfl) rfl (by kernel_rfl) rfl kW rfl (wn rfl) rfl rfl (λ_ _=>(DC (vs:=[(0,.slice A36 ((bQ l).2) ((bQ l).2)),(1,iV (min s ((((bQ l).2:Nat):Int))))]) rfl ⟨rfl,rfl,rfl,rfl,trivial⟩ (by kernel_rfl))) ?_;refine dY (by kernel_rfl) rfl rfl rfl ?_;refine sa 3 kW fD ?_;intro Yz zh;refine zN 2 ?_;refine iP ?_;refine zN 3 ?_;have vH:=zh.seal 1 rfl (at0 _ _ (St.ord 1 zh rfl)) (λa h=>at1 a h);have tV:=vH.aS [5,4,3,2,0];have hlt:(l.take (bQ l).2).length=(bQ l).2:=by rw [List.length_take];omega
 rw [show jG l s=(l.take (bQ l).2,min s (bQ l).2,0) from if_pos hm];exact ⟨A36,(bQ l).2,by rw [hlt];rfl,by rw [hlt];exact tV⟩
theorem Er {a:UInt8} {n:Int} (h:n=a.toNat):UInt8.ofNat n.toNat=a:=by
 subst h;simp
theorem ZP {a b c d:UInt8} {n:Int} (h:n=16777216*(a.toNat:Int)+65536*(b.toNat:Int)+256*(c.toNat:Int)+(d.toNat:Int)):zo n=[a,b,c,d]:=by
 have:=u8_in a;have:=u8_in b;have:=u8_in c;have:=u8_in d;unfold zo;rw [Er (a:=a) (by omega),Er (a:=b) (by omega),Er (a:=c) (by omega),Er (a:=d) (by omega)]
theorem NK {a b c d:UInt8}:pO [a,b,c,d]=16777216*(a.toNat:Int)+65536*(b.toNat:Int)+256*(c.toNat:Int)+(d.toNat:Int):=by
 simp [pO];omega
theorem adR {q:List UInt8} {s:Int} (hq:q.length=4) (h0:0<=s) (h1:s<=4294967295):pO q=s↔zo s=q:=by
 match q,hq with
 | [a,b,c,d],_=>
  constructor
  ·intro h;rw [NK] at h;exact ZP h.symm
  intro h;have ha:=u8_in a;have hb:=u8_in b;have hc:=u8_in c;have hd:=u8_in d;unfold zo at h;simp only [List.cons.injEq,and_true] at h;obtain ⟨e1,e2,e3,e4⟩:=h;subst e1;subst e2;subst e3;subst e4;rw [NK];simp only [UInt8.toNat_ofNat'];omega
section
variable {b:List UInt8}
theorem WX (h: ¬ b.length<2) (h1: ¬ b.length<cK b+6):headed ((b.drop 2).take (cK b))=b.take (2+cK b):=by
 match b,h,h1 with
 | x::y::r,_,h1=>
  have e:cK (x::y::r)=x.toNat*256+y.toNat:=rfl;have hx:=x.toNat_lt;have hy:=y.toNat_lt;have hl:((List.drop 2 (x::y::r)).take (cK (x::y::r))).length=cK (x::y::r):=by
   rw [List.length_take,List.length_drop];omega
  unfold headed;rw [hl,show UInt8.ofNat (cK (x::y::r) / 256)=x by rw [e,show (x.toNat*256+y.toNat) / 256=x.toNat by omega];simp,
   show UInt8.ofNat (cK (x::y::r) % 256)=y by rw [e,show (x.toNat*256+y.toNat) % 256=y.toNat by omega];simp]
  rw [Nat.add_comm 2];rfl
 | [],h,_=>simp at h
 | [_],h,_=>simp at h
theorem ZQ (h: ¬ b.length<2) (h1: ¬ b.length<cK b+6):pO ((b.drop (2+cK b)).take 4)=zJ (b.take (2+cK b))↔jI ((b.drop 2).take (cK b))=b.take (cK b+6):=by
 unfold jI;rw [WX h h1,show cK b+6=(2+cK b)+4 by omega,List.take_add (i:=2+cK b) (j:=4),List.append_cancel_left_eq];obtain ⟨s0,s1⟩:=KD (b.take (2+cK b));exact adR (by rw [List.length_take,List.length_drop];omega) s0 (by omega)
theorem Qi (h: ¬ b.length<2) (h1: ¬ b.length<cK b+6) (h3:(sV ((b.drop 2).take (cK b))).2=0) (hf:jI ((b.drop 2).take (cK b))=b.take (cK b+6)):firstM b=((sV ((b.drop 2).take (cK b))).1,cK b+6):=
 ND h h1 ((ZQ h h1).2 hf) h3
end
def Jr (n:Int):Prop:=0<=n/\n<=2147483647
theorem ahx {n:Int} (h:Jr n):(qC n).1=zo n:=by unfold qC;unfold Jr at h;rw [if_pos h]
theorem adS {n:Int} (h:Jr n) (t:List UInt8):nZ (zo n++t)=(n,0):=by
 obtain ⟨h0,h1⟩:=h;unfold zo nZ;simp only [List.cons_append,List.nil_append,UInt8.toNat_ofNat'];rw [if_neg (by omega)];simp only [Prod.mk.injEq,and_true];omega
theorem Gf {n:Int} {l:List Int} (h:Jr n):jF (n::l)=zo n++jF l:=by
 show (n::l).flatMap _=_
 rw [List.flatMap_cons,ahx h];rfl
theorem YA: ∀ {l:List Int},(∀ n∈l,Jr n)->(jF l).length=4*l.length
 | [],_=>rfl
 | n::l,h=>by
  rw [Gf (h n (by simp)),List.length_append,YA (λm hm=>h m (by simp [hm])),show (zo n).length=4 from rfl,List.length_cons];omega
theorem RV: ∀ {l:List Int} {j:Nat},(∀ n∈l,Jr n)->(jF l).drop (4*j)=jF (l.drop j)
 | l,0,_=>rfl
 | [],j+1,_=>by simp [jF]
 | n::l,j+1,h=>by
  rw [Gf (h n (by simp)),List.drop_succ_cons,<-RV (j:=j) (λm hm=>h m (by simp [hm])),show 4*(j+1)=(zo n).length+4*j by show _=4+_;omega,<-List.drop_drop,List.drop_left]
theorem UM {l:List Int} {j:Nat} {n:Int} (h: ∀ n∈l,Jr n) (hj:l[j]? =some n):tk (jF l) j=(n,0):=by
 unfold tk;obtain ⟨hl,hn⟩:=List.getElem?_eq_some_iff.1 hj;rw [RV h,List.drop_eq_getElem_cons hl,hn,Gf (h n (by rw [<-hn];exact List.getElem_mem hl))];exact adS (h n (by rw [<-hn];exact List.getElem_mem hl)) _
theorem amH {e:Ev} (h:bD e=0):Jr e.kind/\Jr e.producer/\Jr e.id/\Jr e.body/\Jr e.aR/\Jr e.hno:=by
 unfold bD at h;unfold Jr
 repeat' split at h
 all_goals first
  | exact absurd h (by decide)
  | (clear h;simp only [jW,Bool.and_eq_true,decide_eq_true_eq,not_and,Classical.not_not] at*;omega)
theorem ahy {r:dF} (h:aM r=0): ∀ n∈gy r,Jr n:=by
 unfold aM at h
 split at h
 ·cases h
 split at h
 ·cases h
 rename_i h1 h2
 simp only [jW,Bool.and_eq_true,decide_eq_true_eq,Bool.not_eq_false] at h1 h2;intro n hn;unfold gy at hn;by_cases he:jZ r.kind=true
 ·rw [if_pos he] at h hn;obtain ⟨g1,g2,g3,g4,g5,g6⟩:=amH h;simp only [List.cons_append,List.nil_append,List.mem_cons,List.not_mem_nil,or_false] at hn
  rcases hn with rfl | rfl | rfl | rfl | rfl | rfl | rfl | rfl | rfl | rfl
  any_goals assumption
  all_goals (unfold Jr;omega)
 rw [if_neg he] at hn;simp only [List.append_nil,List.mem_cons,List.not_mem_nil,or_false] at hn
 rcases hn with rfl | rfl | rfl | rfl
 all_goals (unfold Jr;omega)
theorem adT {r:dF} (h:aM r=0) (he: ¬ jZ r.kind=true):r.ev=aT:=by
 unfold aM at h
 split at h
 ·cases h
 split at h
 ·cases h
 try rw [if_neg he] at h
 split at h
 ·assumption
 cases h
theorem ahz {r:dF} (h:aM r=0):sV (jF (gy r))=(r,0):=by
 have hr:=ahy h;have h0:tk (jF (gy r)) 0=(r.kind,0):=UM hr rfl;have hm:kL (jF (gy r))=(gy r).length:=by
  unfold kL;rw [h0];by_cases he:jZ r.kind=true
  ·rw [if_pos (show jZ (r.kind,(0:Int)).1=true from he)];unfold gy;rw [if_pos he];rfl
  rw [if_neg (show ¬ jZ (r.kind,(0:Int)).1=true from he)];unfold gy;rw [if_neg he];rfl
 have hz:yU (jF (gy r)) (gy r).length=0:=uQ λj hj=>by rw [UM hr (List.getElem?_eq_getElem hj)]
 have hto:nG (jF (gy r)) (gy r).length=r:=by
  have hv: ∀ j n,(gy r)[j]? =some n->iF (jF (gy r)) (gy r).length j=n:=λj n hj=>by
   unfold iF;rw [if_pos (List.getElem?_eq_some_iff.1 hj).1,UM hr hj]
  have hw: ∀ j,(gy r).length<=j->iF (jF (gy r)) (gy r).length j=0:=λj hj=>if_neg (by omega);unfold nG;rw [hv 0 r.kind rfl,hv 1 r.queue rfl,hv 2 r.epoch rfl,hv 3 r.peer rfl];by_cases he:jZ r.kind=true
  ·have hn:gy r=[r.kind,r.queue,r.epoch,r.peer,r.ev.kind,r.ev.producer,r.ev.id,r.ev.body,r.ev.aR,r.ev.hno]:=by unfold gy;rw [if_pos he];rfl
   rw [hv 4 r.ev.kind (by rw [hn];rfl),hv 5 r.ev.producer (by rw [hn];rfl),hv 6 r.ev.id (by rw [hn];rfl),hv 7 r.ev.body (by rw [hn];rfl),hv 8 r.ev.aR (by rw [hn];rfl),hv 9 r.ev.hno (by rw [hn];rfl)]
  have hn:(gy r).length=4:=by unfold gy;rw [if_neg he];rfl
  rw [hw 4 (by omega),hw 5 (by omega),hw 6 (by omega),hw 7 (by omega),hw 8 (by omega),hw 9 (by omega)];have:=adT h he;unfold aT at this;rw [<-this]
 unfold sV;rw [hm,if_neg (by rw [hz];simp),hto,if_neg (by rw [YA hr,h];simp)]
theorem acN {r:dF} (h:aM r=0):ni r=(jF (gy r),0):=by unfold ni;rw [if_neg (by simpa using h)]
def lJ (r:dF):List UInt8:=jI (ni r).1
def bJ (rs:List dF):List UInt8:=rs.flatMap lJ
theorem kX (a b:List dF):bJ (a++b)=bJ a++bJ b:=List.flatMap_append
theorem zW (r:dF):6<=(lJ r).length/\(lJ r).length<=46:=by
 unfold lJ;rw [uR];have:=Ej r;omega
theorem NM {p t:List UInt8} (hp:p.length<=65535) {k:Nat} (hk:2<=k):cK ((jI p).take k++t)=p.length:=by
 obtain ⟨k,rfl⟩: ∃ j,k=j+2:=⟨k-2,by omega⟩;unfold jI headed;simp only [List.cons_append,List.take_succ_cons,cK,UInt8.toNat_ofNat'];omega
theorem TN {r:dF} (h:aM r=0) (t:List UInt8):firstM (lJ r++t)=(r,(lJ r).length):=by
 have hl:=Ej r;have hfl:(lJ r).length=(ni r).1.length+6:=uR _;have hpay:cK (lJ r++t)=(ni r).1.length:=by
  have:=NM (p:=(ni r).1) (t:=t) (by omega) (k:=(lJ r).length) (by omega);rwa [show List.take (lJ r).length (jI (ni r).1)=lJ r from List.take_length] at this
 have hlen:(lJ r++t).length=(ni r).1.length+6+t.length:=by rw [List.length_append,hfl]
 have hpl:((lJ r++t).drop 2).take (cK (lJ r++t))=(ni r).1:=by
  rw [hpay];unfold lJ jI headed;simp
 have hd:sV (ni r).1=(r,0):=by rw [acN h];exact ahz h
 rw [Qi (by omega) (by rw [hpay];omega) (by rw [hpl,hd]) (by rw [hpl,hpay,<-hfl,List.take_left];rfl),hpl,hd,hpay,hfl]
theorem WY {r:dF} {k:Nat} (hk:k< (lJ r).length):(firstM ((lJ r).take k)).2=0:=by
 have hl:=Ej r;have hfl:(lJ r).length=(ni r).1.length+6:=uR _;have h2:((lJ r).take k).length=k:=by rw [List.length_take];omega
 by_cases hs:k<2
 ·rw [zf (by omega)];rfl
 have hpay:=NM (p:=(ni r).1) (t:=[]) (by omega) (k:=k) (by omega);rw [List.append_nil] at hpay;have aqT:cK ((lJ r).take k)=(ni r).1.length:=hpay;rw [KI (by omega) (by rw [h2,aqT];omega)];rfl
theorem yu: ∀ {rs:List dF} {t:List UInt8},(∀ r∈rs,aM r=0)->(firstM t).2=0->bQ (bJ rs++t)=(rs,(bJ rs).length)
 | [],t,_,ht=>Hl (by simpa [bJ] using ht)
 | r::rs,t,h,ht=>by
  have e:bJ (r::rs)++t=lJ r++(bJ rs++t):=by simp [bJ,List.flatMap_cons]
  have hf:=TN (h r (by simp)) (bJ rs++t);have hlen:=zW r;rw [e,NH (by rw [hf];show ¬ (lJ r).length=0;omega),hf];simp only [List.drop_left];rw [yu (λx hx=>h x (by simp [hx])) ht];simp [bJ,List.flatMap_cons]
theorem xI:(firstM []).2=0:=by rw [zf (by simp)];rfl
theorem NP: ∀ (rs:List dF) (k:Nat),k<=(bJ rs).length-> ∃ j t,(bJ rs).take k=bJ (rs.take j)++t/\(firstM t).2=0/\j<=rs.length
 | [],k,_=>⟨0,[],by simp [bJ],xI,Nat.le_refl _⟩
 | r::rs,k,hk=>by
  have e:bJ (r::rs)=lJ r++bJ rs:=by simp [bJ,List.flatMap_cons]
  by_cases h:k< (lJ r).length
  ·refine ⟨0,(lJ r).take k,?_,WY h,Nat.zero_le _⟩;rw [e,List.take_append_of_le_length (by omega)];simp [bJ]
  rw [e,List.length_append] at hk;obtain ⟨j,t,h1,h2,h3⟩:=NP rs (k-(lJ r).length) (by omega);refine ⟨j+1,t,?_,h2,by simp;omega⟩;rw [e,List.take_append,List.take_of_length_le (by omega),h1];simp [bJ,List.flatMap_cons]
theorem adU {l:List UInt8} {s:Int} {r:dF} (h:aM r=0) (h0:0<=s) (h1:s<=l.length) (hl:l.length+46<=100000):iR l s r=(l++lJ r,s,0):=by
 unfold iR;have:=zW r;rw [if_neg (by simp [cO];omega),if_neg (by rw [acN h];simp),if_neg (by show ¬ _<_+(lJ r).length;omega)];rfl
theorem NQ {l:List UInt8} {s:Int} {r:dF} (h:(iR l s r).2.2=0):iR l s r=(l++lJ r,s,0)/\aM r=0/\l.length+(lJ r).length<=100000:=by
 unfold iR at h⊢
 split at h
 ·cases h
 split at h
 ·rename_i h2;exact absurd h h2
 split at h
 ·cases h
 rename_i h1 h2 h3
 rw [if_neg h1,if_neg h2,if_neg h3];refine ⟨rfl,?_,by show _+(jI (ni r).1).length<=_;omega⟩;unfold ni at h2
 split at h2
 ·exact Classical.not_not.1 h2
 rename_i h4;exact Classical.not_not.1 h4
end Go.Proofs.YthhnonpehllibaaGreatDoor
