import Derived.Test.YtnhimdkpkmbhlaaGreatDoorG8681f
import Derived.Test.YtnhimdkpkmbhlaaGreatDoorG97504
import Derived.Test.YtnhimdkpkmbhlaaGreatDoorGbe9f9
set_option maxRecDepth 100000
set_option maxHeartbeats 8000000
set_option linter.unusedSimpArgs false
set_option linter.unusedVariables false
namespace Go.Proofs.YtnhimdkpkmbhlaaGreatDoor
open ChangeShapes WideShapes RowKit
def qw (l:List UInt8):Int:=l.foldl (λs c=>s*256+(c.toNat:Int)) 0
theorem abV (l:List UInt8) (c:UInt8):qw (l++[c])=qw l*256+c.toNat:=by simp [qw]
theorem alc: ∀ (l:List UInt8),l.length<=4->0<=qw l/\qw l<=4294967295
 | [],_=>by simp [qw]
 | [a],_=>by have:=u8_in a;simp [qw];omega
 | [a,b],_=>by have:=u8_in a;have:=u8_in b;simp [qw];omega
 | [a,b,c],_=>by have:=u8_in a;have:=u8_in b;have:=u8_in c;simp [qw];omega
 | [a,b,c,d],_=>by have:=u8_in a;have:=u8_in b;have:=u8_in c;have:=u8_in d;simp [qw];omega
 | _::_::_::_::_::_,h=>by simp at h
def Dp:dM×Nat:=(qj,0)
def dF (b:List UInt8):Nat:=match b with
 | x::y::_=>x.toNat*256+y.toNat
 | _=>0
def firstM (b:List UInt8):dM×Nat:=
 if b.length<2 then Dp else if b.length<dF b+6 then Dp else if qw ((b.drop (2+dF b)).take 4)≠Aq (b.take (2+dF b)) then Dp
 else if (uG ((b.drop 2).take (dF b))).2≠0 then Dp else ((uG ((b.drop 2).take (dF b))).1,dF b+6)
section
variable {b:List UInt8}
theorem zR (h:b.length<2):firstM b=Dp:=if_pos h
theorem Mt (h: ¬ b.length<2) (h1:b.length<dF b+6):firstM b=Dp:=by unfold firstM;rw [if_neg h,if_pos h1]
theorem Za (h: ¬ b.length<2) (h1: ¬ b.length<dF b+6) (h2:qw ((b.drop (2+dF b)).take 4)≠Aq (b.take (2+dF b))):firstM b=Dp:=by unfold firstM;rw [if_neg h,if_neg h1,if_pos h2]
theorem Zb (h: ¬ b.length<2) (h1: ¬ b.length<dF b+6) (h2:qw ((b.drop (2+dF b)).take 4)=Aq (b.take (2+dF b))) (h3:(uG ((b.drop 2).take (dF b))).2≠0):firstM b=Dp:=by
 unfold firstM;rw [if_neg h,if_neg h1,if_neg (by simpa using h2),if_pos h3]
theorem P8 (h: ¬ b.length<2) (h1: ¬ b.length<dF b+6) (h2:qw ((b.drop (2+dF b)).take 4)=Aq (b.take (2+dF b))) (h3:(uG ((b.drop 2).take (dF b))).2=0):firstM b=((uG ((b.drop 2).take (dF b))).1,dF b+6):=by
 unfold firstM;rw [if_neg h,if_neg h1,if_neg (by simpa using h2),if_neg (by simpa using h3)]
theorem yA:(firstM b).2<=b.length:=by
 unfold firstM Dp
 split
 ·exact Nat.zero_le _
 split
 ·exact Nat.zero_le _
 split
 ·exact Nat.zero_le _
 split
 ·exact Nat.zero_le _
 simp;omega
theorem aq7 {x y:UInt8} (hx:b[0]? =some x) (hy:b[1]? =some y):dF b=x.toNat*256+y.toNat:=by
 match b,hx,hy with
 | x'::y'::r,hx,hy=>
  simp at hx hy;subst hx;subst hy;rfl
 | [_],_,hy=>simp at hy
end
def qK:Nat->List UInt8->List dM×Nat
 | 0,_=>([],0)
 | f+1,b=>if (firstM b).2=0 then ([],0) else ((firstM b).1::(qK f (b.drop (firstM b).2)).1,(firstM b).2+(qK f (b.drop (firstM b).2)).2)
theorem Jg: ∀ (f g:Nat) (b:List UInt8),b.length<f->b.length<g->qK f b=qK g b
 | 0,_,b,h,_=>absurd h (by omega)
 | _,0,b,_,h=>absurd h (by omega)
 | f+1,g+1,b,hf,hg=>by
  unfold qK;by_cases h:(firstM b).2=0
  ·rw [if_pos h,if_pos h]
  rw [if_neg h,if_neg h,Jg f g _ (by rw [List.length_drop];have:= @yA b;omega) (by rw [List.length_drop];have:= @yA b;omega)]
def bZ (b:List UInt8):List dM×Nat:=qK (b.length+1) b
theorem Jh {b:List UInt8} (h:(firstM b).2=0):bZ b=([],0):=by unfold bZ qK;rw [if_pos h]
theorem P9 {b:List UInt8} (h: ¬ (firstM b).2=0):bZ b=((firstM b).1::(bZ (b.drop (firstM b).2)).1,(firstM b).2+(bZ (b.drop (firstM b).2)).2):=by
 unfold bZ;rw [qK,if_neg h,Jg b.length ((b.drop (firstM b).2).length+1) _ (by rw [List.length_drop];have:= @yA b;omega) (by omega)]
theorem Qb: ∀ (f:Nat) (b:List UInt8),(qK f b).2<=b.length/\(qK f b).1.length<=b.length
 | 0,b=>by simp [qK]
 | f+1,b=>by
  unfold qK
  split
  ·simp
  rename_i h
  have h1:=Qb f (b.drop (firstM b).2);rw [List.length_drop] at h1;have h2:= @yA b;simp;omega
def vk (l:List UInt8) (s:Int):List dM×Nat×Int:=if dH l s=true then ((bZ l).1,(bZ l).2,0) else ([],0,6)
def dM.cells (r:dM):List Value:=[iV r.kind,iV r.queue,iV r.epoch,iV r.peer,iV r.ev.kind,iV r.ev.producer,iV r.ev.id,iV r.ev.body,iV r.ev.aG,iV r.ev.hno]
def agM (w:World) (r:List dM×Nat×Int) (e:Ending) (w':World):Prop:=
 ∃ A c,e= .returned (.tuple #[.slice A r.1.length c,iV (r.2.1:Int),iV r.2.2])/\St w.heap.size w w' [.own 171 10 (.slice A r.1.length c) r.1.length (r.1.flatMap dM.cells)]
def Nc (x:UInt8):List Value:=[.int .u8 x.toNat]
theorem Ux (l:List UInt8):byteCells l=l.flatMap Nc:=by
 induction l with
 | nil=>rfl
 | cons a l ih=>rw [List.flatMap_cons,<-ih];rfl
theorem asZ {w:World} {B:Nat} {A:Option Addr} {n:Nat} {l:List UInt8} (h:Rd w B 1 A n (byteCells l)):Rd w B 1 A n (l.flatMap Nc):=Ux l▸h
theorem aoc {w:World} {B:Nat} {A:Option Addr} {n:Nat} {l:List UInt8} (h:Rd w B 1 A n (l.flatMap Nc)):Rd w B 1 A n (byteCells l):=(Ux l).symm▸h
theorem afg {l:List UInt8}:(l.take 4).take 4=l.take 4:=by simp [List.take_take]
theorem abW {l:List UInt8} {k:Nat} {x:UInt8} (h:l[k]? =some x):qw (l.take k)*256+(x.toNat:Int)=qw (l.take (k+1)):=by
 rw [List.take_add_one,h,<-abV];rfl
def abX (w:World) (r:dM×Nat) (e:Ending) (w':World):Prop:=e= .returned (.tuple #[r.1.val,iV (r.2:Int)])/\Below w.heap.size w w'
theorem V5 (A:Option Addr) (c:Nat) (b:List UInt8) (w:World) (h:Rd w w.heap.size 1 A b.length (byteCells b)) (hn:b.length<=c) (hcm:c<=9223372036854775807) (hb:b.length<=100000):
    Calls Tryz.prog 84 #[.slice A b.length c] w (abX w (firstM b)):=by
 have S:=(St.start w).bU (asZ h);refine gq 69 Tryz.func84 ?_;refine cw [0] ?_;refine zN 2 ?_;refine fJ S xR ?_;intro b1 w2 S3;refine zN 8 ?_;by_cases h4:((b.length:Nat):Int)<2
 ·refine zN 7 ?_;refine sa 0 S3 kQ ?_;intro w5 S6;refine zN 6 ?_;exact ⟨by rw [zR (by omega)];rfl,S6.low⟩
 refine zN 7 ?_;refine dR S3 mixed (by kernel_rfl) ?_;refine zQ ?_;obtain ⟨b8,o9,rfl⟩:=Rd.addr (St.rd 1 S3 rfl) (by omega);obtain ⟨x10,Hy⟩:=zL 0 (St.rd 1 S3 rfl) (by omega);refine uv (λ_ _=>jI 0) ?_;refine uv (v:= .int .u8 ((x10).toNat:Int)) (λ_ TM=>(aj rfl rfl (av Tryz.underlying5 rfl (Rd.xH (i:=0) (St.rd 1 TM rfl) (aX (enc:=Nc) (sz:=1) (λ_=>rfl) Hy rfl))))) ?_;refine uv (v:=iV ((x10).toNat:Int)) (λ_ _=>(G9 rfl rfl (Rk (a:=x10) rfl (by kernel_rfl)))) ?_;have aKm:=u8_in x10;refine uv (v:=iV (((x10).toNat:Int)*256)) (λ_ _=>(aR rfl rfl rfl (aeW rfl (by omega) (by omega)))) ?_;refine uv (v:=iV (2+(((x10).toNat:Int)*256))) (λ_ _=>gu) ?_;refine zQ ?_;obtain ⟨x19,as0⟩:=zL 1 (St.rd 1 S3 rfl) (by omega);refine uv (λ_ _=>jI 1) ?_;refine uv (v:= .int .u8 ((x19).toNat:Int)) (λ_ Hu=>(aj rfl rfl (av Tryz.underlying5 rfl (Rd.xH (i:=0) (St.rd 1 Hu rfl) (aX (enc:=Nc) (sz:=1) (λ_=>rfl) as0 rfl))))) ?_;refine uv (v:=iV ((x19).toNat:Int)) (λ_ _=>(G9 rfl rfl (Rk (a:=x19) rfl (by kernel_rfl)))) ?_;have aKn:=u8_in x19;have aKo:=aq7 Hy as0;have aKp:dF b<=65535:=by omega
 refine uv (v:=iV ((2+dF b:Nat):Int)) (λ_ _=>(aR rfl rfl rfl (by rw [show ((2+dF b:Nat):Int)=2+(((x10).toNat:Int)*256)+((x19).toNat:Int) by omega];exact aei (by omega) (by omega)))) ?_;refine zQ ?_;refine fC λXa qR=>?_;refine zN 7 ?_;refine vv (v:=iV (((2+dF b)+4:Nat):Int)) gu ?_;by_cases h30:((b.length:Nat):Int)< (((2+dF b)+4:Nat):Int)
 ·refine zN 7 ?_;refine sa 0 qR kQ ?_;intro w31 qC;refine zN 6 ?_;exact ⟨by rw [Mt (by omega) (by omega)];rfl,qC.low⟩
 refine zN 17 ?_;refine vv (v:=iV (((2+dF b)+4:Nat):Int)) gu ?_;refine zQ ?_;refine vv (v:=iV (((2+dF b)+4:Nat):Int)) gu ?_;obtain ⟨A33,aA8,aod⟩:=PL (b:=b) (c:=c) (lo:=(some (iV ((2+dF b:Nat):Int)))) (hi:=(some (iV (((2+dF b)+4:Nat):Int)))) (mx:=(some (iV (((2+dF b)+4:Nat):Int)))) (l:=2+dF b) (k:=2+dF b+4) (q:=2+dF b+4) (m:=4) (c':=4) Tryz.underlying114 XL (aeV (2+dF b) (2+dF b+4) (2+dF b+4) rfl rfl rfl (by omega) (by omega) (by omega)) (aoc (show Rd _ _ _ _ _ _ from qR.all 1 _ rfl)) (by omega) (by omega) (by omega) (by omega) (by omega)
 replace aod:Rd _ _ _ _ _ (((b.drop (2+dF b)).take 4).flatMap Nc):=asZ aod
 have nW:=qR.bU aod;refine vv (v:= .slice A33 4 4) (kg rfl rfl (jC rfl) (jC rfl) (jC rfl) (aA8 _)) ?_;refine zN 5 ?_;refine cZ (X:=Nat) (λxv=>[(0,.slice (some ⟨b8,o9,none⟩) b.length c),(2,.pointer (some ⟨b1,0,none⟩)),(3,iV 0),(4,iV ((2+dF b:Nat):Int)),(37,.slice A33 4 4),(38,iV 4),(5,iV (qw (((b.drop (2+dF b)).take 4).take xv))),(39,iV ((xv:Nat):Int))]) (λxv wr=>(xv<=4)/\St w.heap.size w wr [.rd 1 A33 4 (((b.drop (2+dF b)).take 4).flatMap Nc),.blk b1 #[iV 0,iV 0,iV 0,iV 0,iV 0,iV 0,iV 0,iV 0,iV 0,iV 0] 171,.rd 1 (some ⟨b8,o9,none⟩) b.length ((b).flatMap Nc)]) (λxv=>4-xv) (0) ?_ ?_ ?_
 ·exact ⟨Nat.zero_le _,nW⟩
 ·exact ⟨rfl,rfl,rfl,rfl,rfl,rfl,rfl,rfl,trivial⟩
 rintro k Xg ⟨Hz,qU⟩
 try dsimp only at Hz qU
 refine bq (l':=[(0,.slice (some ⟨b8,o9,none⟩) b.length c),(2,.pointer (some ⟨b1,0,none⟩)),(3,iV 0),(4,iV ((2+dF b:Nat):Int)),(37,.slice A33 4 4),(38,iV 4),(5,iV (qw (((b.drop (2+dF b)).take 4).take k))),(39,iV ((k:Nat):Int))]) ⟨rfl,rfl,rfl,rfl,rfl,rfl,rfl,rfl,trivial⟩ (aH (aC ?_));by_cases h40:((k:Nat):Int)<4
 ·refine zN 11 ?_;obtain ⟨b41,o42,rfl⟩:=Rd.addr (St.rd 0 qU rfl) (by omega);obtain ⟨x43,as2⟩:=zL k (St.rd 0 qU rfl) (by omega);refine vv (jI k) ?_;refine vv (aj rfl rfl (av Tryz.underlying5 rfl (Rd.xH (i:=0) (St.rd 0 qU rfl) (aX (enc:=Nc) (sz:=1) (λ_=>rfl) as2 rfl)))) ?_;refine zN 5 ?_;have aKq:=alc (((b.drop (2+dF b)).take 4).take k) (by simp;omega);refine vv (v:=iV (qw (((b.drop (2+dF b)).take 4).take k)*256)) (aR rfl rfl rfl (aeW rfl (by omega) (by omega))) ?_;refine zQ ?_;refine vv (v:=iV ((x43).toNat:Int)) (G9 rfl rfl (Rk (a:=x43) rfl (by kernel_rfl))) ?_;have aKr:=u8_in x43;refine vv (v:=iV (qw (((b.drop (2+dF b)).take 4).take k)*256+((x43).toNat:Int))) (aR rfl rfl rfl (avT rfl (by omega) (by omega) (by omega) (by omega))) ?_;refine zN 5 ?_;refine vv (v:=iV ((k+1:Nat):Int)) gu ?_;refine zN 2 ?_;refine aM (k+1) ?_ ⟨rfl,rfl,rfl,rfl,rfl,rfl,(apR (abW as2)),rfl,trivial⟩ (by first | omega | (dsimp only;omega));exact ⟨(by omega),qU⟩
 refine zN 16 ?_;obtain ⟨Oq,aA9,aoe⟩:=PL (b:=b) (c:=c) (lo:=none) (hi:=(some (iV ((2+dF b:Nat):Int)))) (mx:=none) (l:=0) (k:=2+dF b) (q:=c) (m:=2+dF b) (c':=c) Tryz.underlying114 XL (azX (2+dF b) rfl (by omega)) (aoc (show Rd _ _ _ _ _ _ from qU.all 2 _ rfl)) (by omega) (by omega) (by omega) (by omega) (by omega)
 replace aoe:Rd _ _ _ _ _ (byteCells (b.take (2+dF b))):=aoe
 have rM:=qU.bU aoe;refine vv (v:= .slice Oq (2+dF b) c) (kg rfl rfl nV (jC rfl) nV (aA9 _)) ?_;refine dz awg (Pp _ _ _ (b.take (2+dF b)) _ (St.rd 0 rM rfl) (by omega)) ?_;rintro _ Xc ⟨rfl,q53,rfl⟩;refine ⟨_,rfl,?_⟩;have kS:=rM.drewN q53;obtain rfl:k=4:=by omega
 by_cases h54:qw ((b.drop (2+dF b)).take 4)=Aq (b.take (2+dF b))
 ·refine vv (v:= .bool false) (aR rfl rfl rfl (JJ (by rw [afg];exact h54))) ?_;refine zN 9 ?_;obtain ⟨A55,aBa,aof⟩:=PL (b:=b) (c:=c) (lo:=(some (iV 2))) (hi:=(some (iV ((2+dF b:Nat):Int)))) (mx:=none) (l:=2) (k:=2+dF b) (q:=c) (m:=dF b) (c':=c-2) Tryz.underlying114 XL (XK 2 (2+dF b) rfl rfl (by omega) (by omega)) (aoc (show Rd _ _ _ _ _ _ from kS.all 3 _ rfl)) (by omega) (by omega) (by omega) (by omega) (by omega)
  replace aof:Rd _ _ _ _ _ (byteCells ((b.drop 2).take (dF b))):=aof
  have DT:=kS.bU aof;refine vv (v:= .slice A55 (dF b) (c-2)) (kg rfl rfl (jC rfl) (jC rfl) nV (aBa _)) ?_;refine cab awh DT (R8 A55 (dF b) (c-2) ((b.drop 2).take (dF b)) _ (St.rd 0 DT rfl) (by omega) (by unfold maxLen;omega)) ?_;intro w59 Xh;refine zN 3 ?_;refine fJ Xh xR ?_;intro b62 w63 S64;refine sa 0 S64 kQ ?_;intro w65 Eu;refine zN 7 ?_;by_cases Dc:(uG ((b.drop 2).take (dF b))).2=0
  ·refine zN 10 ?_;refine vv (v:=iV (((2+dF b)+4:Nat):Int)) gu ?_;refine sa 4 Eu kQ ?_;intro w68 u7;refine zN 5 ?_;exact ⟨by rw [P8 (by omega) (by omega) h54 Dc];exact congrArg Ending.returned (by show Value.tuple #[_,iV _]=Value.tuple #[_,iV _];rw [show ((2+dF b+4:Nat):Int)=((dF b+6:Nat):Int) by omega];rfl),u7.low⟩
  refine zN 7 ?_;refine sa 4 Eu kQ ?_;intro w70 uw;refine zN 6 ?_;exact ⟨by rw [Zb (by omega) (by omega) h54 Dc];rfl,uw.low⟩
 refine vv (v:= .bool true) (aR rfl rfl rfl (Rh (by rw [afg];exact h54))) ?_;refine zN 6 ?_;refine sa 2 kS kQ ?_;intro w72 uR;refine zN 6 ?_;exact ⟨by rw [Za (by omega) (by omega) h54];rfl,uR.low⟩
theorem Qc {w:World} {base:Nat} {e:TypeId} {size:Nat} {A:Option Addr} {n c:Nat} {xs:List Value} (h:w.ownsRow base e size (.slice A n c) n xs):n<=c/\c<=maxLen:=by
 obtain ⟨A',c',e1,h1,h2⟩:=mP h
 cases e1;exact ⟨h1,h2⟩
theorem Sv {l:List UInt8}:bZ l=([]++(bZ (l.drop 0)).1,0+(bZ (l.drop 0)).2):=by simp
theorem V6 {l:List UInt8} {acc:List dM} {p:Nat} (h:bZ l=(acc++(bZ (l.drop p)).1,p+(bZ (l.drop p)).2)) (h1: ¬ (firstM (l.drop p)).2=0):
  bZ l=(acc++[(firstM (l.drop p)).1]++(bZ (l.drop (p+(firstM (l.drop p)).2))).1,p+(firstM (l.drop p)).2+(bZ (l.drop (p+(firstM (l.drop p)).2))).2):=by
 rw [h,P9 h1,List.drop_drop,List.append_assoc,Nat.add_assoc];rfl
theorem ab0 {l:List UInt8} {s:Int} {acc:List dM} {p:Nat} (hm:dH l s=true) (h:bZ l=(acc++(bZ (l.drop p)).1,p+(bZ (l.drop p)).2)) (h1:(firstM (l.drop p)).2=0):vk l s=(acc,p,0):=by
 unfold vk;rw [if_pos hm,h,Jh h1];simp
theorem D8 (A:Option Addr) (c:Nat) (l:List UInt8) (s:Int) (w:World) (h:Rd w w.heap.size 1 A l.length (byteCells l)):
    Calls Tryz.prog 61 #[.agg #[.slice A l.length c,iV s]] w (agM w (vk l s)):=by
 have S:=(St.start w).bU h;refine gq 37 Tryz.func61 ?_;refine cw [0] ?_;refine zN 2 ?_;refine iP S ?_;intro b1 w2 S3;refine zN 8 ?_
 rcases AQ l s with ⟨ho,hm⟩ | ⟨ho,hm⟩
 ·have HO:=λw h=>lW A l.length c l s w h;rw [ho] at HO;refine dz aem (HO _ (St.rd 1 S3 rfl)) ?_;rintro _ w8 ⟨A4,c5,rfl,hb6,hO7⟩;refine ⟨_,rfl,?_⟩;have S9:=S3.uV hb6 hO7;clear HO hb6 hO7 S3;change St _ _ _ [.own 5 1 (.slice A4 l.length c5) l.length (byteCells l),.blk b1 #[.slice A l.length c,iV s] 116,.rd 1 A l.length (byteCells l)] at S9;have hcap:=Qc (S9.own 0 rfl);unfold maxLen at hcap;have hlen:l.length<=100000:=(oO hm).1;refine zN 3 ?_;refine fJ S9 zM ?_;intro b10 Cc kE;refine sa 0 kE fG ?_;intro DU kD;refine zN 15 ?_;have iH:=kD.nil 171 10;refine zN 9 ?_;have l6:=iH.aU [4];refine cZ (X:=(List dM)×Nat×Nat×(Option Addr)×Nat) (λxv=>[(2,.slice none 0 0),(3,iV 0),(4,iV 0),(5,.pointer (some ⟨b10,0,none⟩)),(7,.slice xv.2.2.2.1 xv.2.2.1 xv.2.2.2.2),(8,iV ((xv.2.1:Nat):Int))]) (λxv wr=>(bZ l=(xv.1++(bZ (l.drop xv.2.1)).1,xv.2.1+(bZ (l.drop xv.2.1)).2))/\(xv.2.1<=l.length)/\(xv.2.2.1<=xv.2.1)/\(xv.2.2.1=xv.1.length)/\St w.heap.size w wr [.own 171 10 (.slice xv.2.2.2.1 xv.2.2.1 xv.2.2.2.2) xv.2.2.1 ((xv.1).flatMap dM.cells),.blk b10 #[.slice A4 l.length c5,iV s] 116,.own 5 1 (.slice A4 l.length c5) l.length (byteCells l),.blk b1 #[.slice A l.length c,iV s] 116]) (λxv=>l.length-xv.2.1) ([],0,0,none,0) ?_ ?_ ?_
  ·exact ⟨Sv,Nat.zero_le _,Nat.le_refl _,rfl,l6⟩
  ·exact ⟨rfl,rfl,rfl,rfl,rfl,rfl,trivial⟩
  rintro ⟨acc,p,m,A9,c9⟩ Ms ⟨TN,aog,hi21,hi22,jl⟩
  try dsimp only at TN aog hi21 hi22 jl
  refine bq (l':=[(2,.slice none 0 0),(3,iV 0),(4,iV 0),(5,.pointer (some ⟨b10,0,none⟩)),(7,.slice A9 m c9),(8,iV ((p:Nat):Int))]) ⟨rfl,rfl,rfl,rfl,rfl,rfl,trivial⟩ (EZ (aH (aC (vv (fO 0 aal) ?_))));refine zN 2 ?_;obtain ⟨A23,aBb,as4⟩:=PL (b:=l) (c:=c5) (lo:=(some (iV ((p:Nat):Int)))) (hi:=none) (mx:=none) (l:=p) (k:=l.length) (q:=c5) (m:=(l.drop p).length) (c':=c5-p) Tryz.underlying114 XL (aik p rfl (by omega)) (St.ord 2 jl rfl) (by omega) (by omega) (by omega) List.length_drop.symm rfl;rw [List.take_length] at as4;refine vv (v:= .slice A23 ((l.drop p).length) (c5-p)) (kg rfl rfl (jC rfl) nV nV (aBb _)) ?_;refine dz av7 (V5 A23 (c5-p) (l.drop p) _ as4 (by rw [List.length_drop];omega) (by omega) (by rw [List.length_drop];omega)) ?_;rintro _ KD ⟨rfl,XZ⟩;refine ⟨_,rfl,?_⟩;have pE:=jl.on XZ;clear XZ jl;have hfl:= @yA (l.drop p);rw [List.length_drop] at hfl;refine zN 3 ?_;refine fJ pE xR ?_;intro Qe Xe ni;refine sa 0 ni kQ ?_;intro w32 oG;refine zN 7 ?_;by_cases h34:(((firstM (l.drop p)).2:Nat):Int)=0
  ·refine zN 19 ?_;have pF:=oG.aU [4,3,2,0];have hz:vk l s=(acc,p,0):=ab0 hm TN (by omega);rw [hz];subst hi22;exact ⟨_,_,rfl,pF⟩
  refine zN 10 ?_;refine Oo oG ?_;intro tC Xg qU;refine dw (news:=[iV ((firstM (l.drop p)).1.kind),iV ((firstM (l.drop p)).1.queue),iV ((firstM (l.drop p)).1.epoch),iV ((firstM (l.drop p)).1.peer),iV ((firstM (l.drop p)).1.ev.kind),iV ((firstM (l.drop p)).1.ev.producer),iV ((firstM (l.drop p)).1.ev.id),iV ((firstM (l.drop p)).1.ev.body),iV ((firstM (l.drop p)).1.ev.aG),iV ((firstM (l.drop p)).1.ev.hno)]) (xs':=(acc++[(firstM (l.drop p)).1]).flatMap dM.cells) 2 qU (wn rfl) rfl rfl rfl rfl rfl rfl (St.lM (xs:=[iV ((firstM (l.drop p)).1.kind),iV ((firstM (l.drop p)).1.queue),iV ((firstM (l.drop p)).1.epoch),iV ((firstM (l.drop p)).1.peer),iV ((firstM (l.drop p)).1.ev.kind),iV ((firstM (l.drop p)).1.ev.producer),iV ((firstM (l.drop p)).1.ev.id),iV ((firstM (l.drop p)).1.ev.body),iV ((firstM (l.drop p)).1.ev.aG),iV ((firstM (l.drop p)).1.ev.hno)]) 0 qU rfl rfl rfl) Tryz.underlying153 Rn rfl (by decide) (bX rfl) (by simp only [maxLen];omega) (by omega) (iJ (enc:=dM.cells) rfl rfl) ?_;intro Ji c40 w41 aKs aKt qV;refine zN 6 ?_;refine vv (v:=iV ((p+((firstM (l.drop p)).2):Nat):Int)) gu ?_;refine zN 3 ?_;have ou:=qV.aU [1,0];refine aM (acc++[(firstM (l.drop p)).1],p+(firstM (l.drop p)).2,m+1,Ji,c40) ?_ ⟨rfl,rfl,rfl,rfl,rfl,rfl,trivial⟩ (by first | omega | (dsimp only;omega));exact ⟨(V6 TN (by omega)),(by dsimp only;omega),(by dsimp only;omega),(by dsimp only;simp [hi22]),ou⟩
 have HO:=λw h=>lW A l.length c l s w h;rw [ho] at HO;refine dz aem (HO _ (St.rd 1 S3 rfl)) ?_;rintro _ Xf ⟨A46,c47,rfl,hb48,as5⟩;refine ⟨_,rfl,?_⟩;have uq:=S3.uV hb48 as5;clear HO hb48 as5 S3;refine zN 3 ?_;refine fJ uq zM ?_;intro b52 w53 mh;refine sa 0 mh fG ?_;intro w55 Ew;refine zN 21 ?_;have rP:=Ew.aU [3,2,1,0];rw [show vk l s=([],0,6) from if_neg (by rw [hm];simp)];exact ⟨none,0,rfl,rP.nil 171 10⟩
theorem ald {l:List UInt8} {s:Int} (h:dH l s=true):Jy l s=(l,s,true):=by
 rcases AQ l s with ⟨h1,_⟩ | ⟨_,h1⟩
 ·exact h1
 rw [h] at h1;cases h1
def jR (l:List UInt8) (s:Int):List UInt8×Int×Int:=if dH l s=true then (l.take (bZ l).2,min s (bZ l).2,0) else ([],0,6)
def ale (w:World) (r:List UInt8×Int×Int) (e:Ending) (w':World):Prop:=
 ∃ A c,e= .returned (.tuple #[.agg #[.slice A r.1.length c,iV r.2.1],iV r.2.2])/\St w.heap.size w w' [.bI 1 A r.1.length (byteCells r.1)]
theorem Sw (A:Option Addr) (c:Nat) (l:List UInt8) (s:Int) (w:World) (h:Rd w w.heap.size 1 A l.length (byteCells l)):
    Calls Tryz.prog 60 #[.agg #[.slice A l.length c,iV s]] w (ale w (jR l s)):=by
 have S:=(St.start w).bU h;refine gq 34 Tryz.func60 ?_;refine cw [0] ?_;refine zN 2 ?_;refine iP S ?_;intro b1 w2 S3;refine fJ S3 zM ?_;intro b4 w5 S6;refine zN 6 ?_;have hle:=Qb (l.length+1) l;rw [<-show bZ l=qK (l.length+1) l from rfl] at hle
 cases hm:dH l s
 ·have HR:=λw h=>D8 A c l s w h;rw [show vk l s=([],0,6) from if_neg (by rw [hm];simp)] at HR;refine dz an1 (HR _ (St.rd 2 S6 rfl)) ?_;rintro _ w9 ⟨A7,c8,rfl,T11⟩;refine ⟨_,rfl,?_⟩;have qJ:=S6.ext T11 rfl;change St _ _ _ [.own 171 10 (.slice A7 (([]:List dM).length) c8) (([]:List dM).length) ((([]:List dM)).flatMap dM.cells),_,_,_] at qJ;refine zN 21 ?_;refine sa 1 qJ fG ?_;intro w12 yu;refine zN 6 ?_;have kD:=yu.aU [3,2,1,0];rw [show jR l s=([],0,6) from if_neg (by rw [hm];simp)];exact ⟨none,0,rfl,aI kD⟩
 have HR:=λw h=>D8 A c l s w h;rw [show vk l s=((bZ l).1,(bZ l).2,0) from if_pos hm] at HR;have hlen:l.length<=100000:=(oO hm).1;refine dz an1 (HR _ (St.rd 2 S6 rfl)) ?_;rintro _ Ms ⟨A15,c16,rfl,T19⟩;refine ⟨_,rfl,?_⟩;have jl:=S6.ext T19 rfl;change St _ _ _ [.own 171 10 (.slice A15 ((bZ l).1.length) c16) ((bZ l).1.length) (((bZ l).1).flatMap dM.cells),_,_,_] at jl;refine zN 8 ?_;refine KA (vv (v:=iV 0) ym ?_);refine vv awu ?_;refine zN 8 ?_;have HO:=λw h=>lW A l.length c l s w h;rw [ald hm] at HO;refine dz aem (HO _ (St.rd 3 jl rfl)) ?_;rintro _ Ot ⟨A20,c21,rfl,ab1,as8⟩;refine ⟨_,rfl,?_⟩;have jB:=jl.uV ab1 as8;clear HO ab1 as8 jl;change St _ _ _ [.own 5 1 (.slice A20 l.length c21) l.length (byteCells l),.own 171 10 (.slice A15 ((bZ l).1.length) c16) ((bZ l).1.length) (((bZ l).1).flatMap dM.cells),.blk b4 #[.slice none 0 0,iV 0] 116,.blk b1 #[.slice A l.length c,iV s] 116,.rd 1 A l.length (byteCells l)] at jB;have hcap:=Qc (jB.own 0 rfl);unfold maxLen at hcap;refine zN 3 ?_;refine fJ jB zM ?_;intro b26 P7 uy;refine sa 0 uy fG ?_;intro Uy oz;refine zN 4 ?_;have ni:=oz.drew;refine fH 12 10 ni [] ?_;iterate 4 refine gW ?_
 obtain ⟨A36,aBd,aBe,aBf⟩:=aj8 (b:=l) (A:=A20) (c:=c21) (lo:=none) (hi:=some (iV (((bZ l).2:Nat):Int))) (mx:=some (iV (((bZ l).2:Nat):Int))) (l:=0) (k:=(bZ l).2) (q:=(bZ l).2) (m:=(bZ l).2) (c':=(bZ l).2) Tryz.underlying114 XL (amB ((bZ l).2) ((bZ l).2) rfl rfl (Nat.le_refl _) (by omega)) (by omega) (by omega) (by omega) rfl rfl;refine gk (v:= .slice A36 ((bZ l).2) ((bZ l).2)) 4 rfl ni (λ_ _=>(kg rfl rfl nV (jC rfl) (jC rfl) (aBd _))) ?_;iterate 3 refine gW ?_
 refine Er (v:=iV (min s ((((bZ l).2:Nat):Int)))) (i:=8) (m:=3) rfl (by kernel_rfl) (by kernel_rfl) (by kernel_rfl) rfl (by kernel_rfl) rfl ni rfl (wn rfl) rfl rfl (λ_ _=>(rE (vs:=[iV s,iV (((bZ l).2:Nat):Int)]) rfl ⟨rfl,rfl,trivial⟩ λ_=>amC)) ?_;refine Er (v:= .agg #[.slice A36 ((bZ l).2) ((bZ l).2),iV (min s ((((bZ l).2:Nat):Int)))]) (i:=9) (m:=2) rfl (by kernel_rfl) (by kernel_rfl) (by kernel_rfl) rfl (by kernel_rfl) rfl ni rfl (wn rfl) rfl rfl (λ_ _=>(En (vs:=[(0,.slice A36 ((bZ l).2) ((bZ l).2)),(1,iV (min s ((((bZ l).2:Nat):Int))))]) rfl ⟨rfl,rfl,rfl,rfl,trivial⟩ (by kernel_rfl))) ?_;refine eP (by kernel_rfl) rfl rfl rfl ?_;refine sa 3 ni fG ?_;intro Xi wW;refine zN 2 ?_;refine jk ?_;refine zN 3 ?_;have rJ:=wW.seal 1 rfl (aBe _ _ (St.ord 1 wW rfl)) (λa h=>aBf a h);have uz:=rJ.aU [5,4,3,2,0];have hlt:(l.take (bZ l).2).length=(bZ l).2:=by rw [List.length_take];omega
 rw [show jR l s=(l.take (bZ l).2,min s (bZ l).2,0) from if_pos hm];exact ⟨A36,(bZ l).2,by rw [hlt];rfl,by rw [hlt];exact uz⟩
theorem Fj {a:UInt8} {n:Int} (h:n=a.toNat):UInt8.ofNat n.toNat=a:=by
 subst h;simp
theorem ab2 {a b c d:UInt8} {n:Int} (h:n=16777216*(a.toNat:Int)+65536*(b.toNat:Int)+256*(c.toNat:Int)+(d.toNat:Int)):zX n=[a,b,c,d]:=by
 have:=u8_in a;have:=u8_in b;have:=u8_in c;have:=u8_in d;unfold zX;rw [Fj (a:=a) (by omega),Fj (a:=b) (by omega),Fj (a:=c) (by omega),Fj (a:=d) (by omega)]
theorem Qf {a b c d:UInt8}:qw [a,b,c,d]=16777216*(a.toNat:Int)+65536*(b.toNat:Int)+256*(c.toNat:Int)+(d.toNat:Int):=by
 simp [qw];omega
theorem agN {q:List UInt8} {s:Int} (hq:q.length=4) (h0:0<=s) (h1:s<=4294967295):qw q=s↔zX s=q:=by
 match q,hq with
 | [a,b,c,d],_=>
  constructor
  ·intro h;rw [Qf] at h;exact ab2 h.symm
  intro h;have ha:=u8_in a;have hb:=u8_in b;have hc:=u8_in c;have hd:=u8_in d;unfold zX at h;simp only [List.cons.injEq,and_true] at h;obtain ⟨e1,e2,e3,e4⟩:=h;subst e1;subst e2;subst e3;subst e4;rw [Qf];simp only [UInt8.toNat_ofNat'];omega
section
variable {b:List UInt8}
theorem Zc (h: ¬ b.length<2) (h1: ¬ b.length<dF b+6):headed ((b.drop 2).take (dF b))=b.take (2+dF b):=by
 match b,h,h1 with
 | x::y::r,_,h1=>
  have e:dF (x::y::r)=x.toNat*256+y.toNat:=rfl;have hx:=x.toNat_lt;have hy:=y.toNat_lt;have hl:((List.drop 2 (x::y::r)).take (dF (x::y::r))).length=dF (x::y::r):=by
   rw [List.length_take,List.length_drop];omega
  unfold headed;rw [hl,show UInt8.ofNat (dF (x::y::r) / 256)=x by rw [e,show (x.toNat*256+y.toNat) / 256=x.toNat by omega];simp,
   show UInt8.ofNat (dF (x::y::r) % 256)=y by rw [e,show (x.toNat*256+y.toNat) % 256=y.toNat by omega];simp]
  rw [Nat.add_comm 2];rfl
 | [],h,_=>simp at h
 | [_],h,_=>simp at h
theorem ab3 (h: ¬ b.length<2) (h1: ¬ b.length<dF b+6):qw ((b.drop (2+dF b)).take 4)=Aq (b.take (2+dF b))↔jT ((b.drop 2).take (dF b))=b.take (dF b+6):=by
 unfold jT;rw [Zc h h1,show dF b+6=(2+dF b)+4 by omega,List.take_add (i:=2+dF b) (j:=4),List.append_cancel_left_eq];obtain ⟨s0,s1⟩:=Mk (b.take (2+dF b));exact agN (by rw [List.length_take,List.length_drop];omega) s0 (by omega)
theorem Sy (h: ¬ b.length<2) (h1: ¬ b.length<dF b+6) (h3:(uG ((b.drop 2).take (dF b))).2=0) (hf:jT ((b.drop 2).take (dF b))=b.take (dF b+6)):firstM b=((uG ((b.drop 2).take (dF b))).1,dF b+6):=
 P8 h h1 ((ab3 h h1).2 hf) h3
end
def KG (n:Int):Prop:=0<=n/\n<=2147483647
theorem alf {n:Int} (h:KG n):(rz n).1=zX n:=by unfold rz;unfold KG at h;rw [if_pos h]
theorem agO {n:Int} (h:KG n) (t:List UInt8):oJ (zX n++t)=(n,0):=by
 obtain ⟨h0,h1⟩:=h;unfold zX oJ;simp only [List.cons_append,List.nil_append,UInt8.toNat_ofNat'];rw [if_neg (by omega)];simp only [Prod.mk.injEq,and_true];omega
theorem HY {n:Int} {l:List Int} (h:KG n):jQ (n::l)=zX n++jQ l:=by
 show (n::l).flatMap _=_
 rw [List.flatMap_cons,alf h];rfl
theorem aaG: ∀ {l:List Int},(∀ n∈l,KG n)->(jQ l).length=4*l.length
 | [],_=>rfl
 | n::l,h=>by
  rw [HY (h n (by simp)),List.length_append,aaG (λm hm=>h m (by simp [hm])),show (zX n).length=4 from rfl,List.length_cons];omega
theorem Uz: ∀ {l:List Int} {j:Nat},(∀ n∈l,KG n)->(jQ l).drop (4*j)=jQ (l.drop j)
 | l,0,_=>rfl
 | [],j+1,_=>by simp [jQ]
 | n::l,j+1,h=>by
  rw [HY (h n (by simp)),List.drop_succ_cons,<-Uz (j:=j) (λm hm=>h m (by simp [hm])),show 4*(j+1)=(zX n).length+4*j by show _=4+_;omega,<-List.drop_drop,List.drop_left]
theorem Xj {l:List Int} {j:Nat} {n:Int} (h: ∀ n∈l,KG n) (hj:l[j]? =some n):tk (jQ l) j=(n,0):=by
 unfold tk;obtain ⟨hl,hn⟩:=List.getElem?_eq_some_iff.1 hj;rw [Uz h,List.drop_eq_getElem_cons hl,hn,HY (h n (by rw [<-hn];exact List.getElem_mem hl))];exact agO (h n (by rw [<-hn];exact List.getElem_mem hl)) _
theorem arf {e:Ev} (h:bE e=0):KG e.kind/\KG e.producer/\KG e.id/\KG e.body/\KG e.aG/\KG e.hno:=by
 unfold bE at h;unfold KG
 repeat' split at h
 all_goals first
  | exact absurd h (by decide)
  | (clear h;simp only [kI,Bool.and_eq_true,decide_eq_true_eq,not_and,Classical.not_not] at*;omega)
theorem alg {r:dM} (h:aQ r=0): ∀ n∈gJ r,KG n:=by
 unfold aQ at h
 split at h
 ·cases h
 split at h
 ·cases h
 rename_i h1 h2
 simp only [kI,Bool.and_eq_true,decide_eq_true_eq,Bool.not_eq_false] at h1 h2;intro n hn;unfold gJ at hn;by_cases he:kN r.kind=true
 ·rw [if_pos he] at h hn;obtain ⟨g1,g2,g3,g4,g5,g6⟩:=arf h;simp only [List.cons_append,List.nil_append,List.mem_cons,List.not_mem_nil,or_false] at hn
  rcases hn with rfl | rfl | rfl | rfl | rfl | rfl | rfl | rfl | rfl | rfl
  any_goals assumption
  all_goals (unfold KG;omega)
 rw [if_neg he] at hn;simp only [List.append_nil,List.mem_cons,List.not_mem_nil,or_false] at hn
 rcases hn with rfl | rfl | rfl | rfl
 all_goals (unfold KG;omega)
theorem agP {r:dM} (h:aQ r=0) (he: ¬ kN r.kind=true):r.ev=aV:=by
 unfold aQ at h
 split at h
 ·cases h
 split at h
 ·cases h
 try rw [if_neg he] at h
 split at h
 ·assumption
 cases h
theorem alh {r:dM} (h:aQ r=0):uG (jQ (gJ r))=(r,0):=by
 have hr:=alg h;have h0:tk (jQ (gJ r)) 0=(r.kind,0):=Xj hr rfl;have hm:lF (jQ (gJ r))=(gJ r).length:=by
  unfold lF;rw [h0];by_cases he:kN r.kind=true
  ·rw [if_pos (show kN (r.kind,(0:Int)).1=true from he)];unfold gJ;rw [if_pos he];rfl
  rw [if_neg (show ¬ kN (r.kind,(0:Int)).1=true from he)];unfold gJ;rw [if_neg he];rfl
 have hz:zJ (jQ (gJ r)) (gJ r).length=0:=vQ λj hj=>by rw [Xj hr (List.getElem?_eq_getElem hj)]
 have hto:nU (jQ (gJ r)) (gJ r).length=r:=by
  have hv: ∀ j n,(gJ r)[j]? =some n->iK (jQ (gJ r)) (gJ r).length j=n:=λj n hj=>by
   unfold iK;rw [if_pos (List.getElem?_eq_some_iff.1 hj).1,Xj hr hj]
  have hw: ∀ j,(gJ r).length<=j->iK (jQ (gJ r)) (gJ r).length j=0:=λj hj=>if_neg (by omega);unfold nU;rw [hv 0 r.kind rfl,hv 1 r.queue rfl,hv 2 r.epoch rfl,hv 3 r.peer rfl];by_cases he:kN r.kind=true
  ·have hn:gJ r=[r.kind,r.queue,r.epoch,r.peer,r.ev.kind,r.ev.producer,r.ev.id,r.ev.body,r.ev.aG,r.ev.hno]:=by unfold gJ;rw [if_pos he];rfl
   rw [hv 4 r.ev.kind (by rw [hn];rfl),hv 5 r.ev.producer (by rw [hn];rfl),hv 6 r.ev.id (by rw [hn];rfl),hv 7 r.ev.body (by rw [hn];rfl),hv 8 r.ev.aG (by rw [hn];rfl),hv 9 r.ev.hno (by rw [hn];rfl)]
  have hn:(gJ r).length=4:=by unfold gJ;rw [if_neg he];rfl
  rw [hw 4 (by omega),hw 5 (by omega),hw 6 (by omega),hw 7 (by omega),hw 8 (by omega),hw 9 (by omega)];have:=agP h he;unfold aV at this;rw [<-this]
 unfold uG;rw [hm,if_neg (by rw [hz];simp),hto,if_neg (by rw [aaG hr,h];simp)]
theorem afi {r:dM} (h:aQ r=0):nL r=(jQ (gJ r),0):=by unfold nL;rw [if_neg (by simpa using h)]
def mo (r:dM):List UInt8:=jT (nL r).1
def bH (rs:List dM):List UInt8:=rs.flatMap mo
theorem kL (a b:List dM):bH (a++b)=bH a++bH b:=List.flatMap_append
theorem AV (r:dM):6<=(mo r).length/\(mo r).length<=46:=by
 unfold mo;rw [vR];have:=E5 r;omega
theorem Qg {p t:List UInt8} (hp:p.length<=65535) {k:Nat} (hk:2<=k):dF ((jT p).take k++t)=p.length:=by
 obtain ⟨k,rfl⟩: ∃ j,k=j+2:=⟨k-2,by omega⟩;unfold jT headed;simp only [List.cons_append,List.take_succ_cons,dF,UInt8.toNat_ofNat'];omega
theorem V7 {r:dM} (h:aQ r=0) (t:List UInt8):firstM (mo r++t)=(r,(mo r).length):=by
 have hl:=E5 r;have hfl:(mo r).length=(nL r).1.length+6:=vR _;have hpay:dF (mo r++t)=(nL r).1.length:=by
  have:=Qg (p:=(nL r).1) (t:=t) (by omega) (k:=(mo r).length) (by omega);rwa [show List.take (mo r).length (jT (nL r).1)=mo r from List.take_length] at this
 have hlen:(mo r++t).length=(nL r).1.length+6+t.length:=by rw [List.length_append,hfl]
 have hpl:((mo r++t).drop 2).take (dF (mo r++t))=(nL r).1:=by
  rw [hpay];unfold mo jT headed;simp
 have hd:uG (nL r).1=(r,0):=by rw [afi h];exact alh h
 rw [Sy (by omega) (by rw [hpay];omega) (by rw [hpl,hd]) (by rw [hpl,hpay,<-hfl,List.take_left];rfl),hpl,hd,hpay,hfl]
theorem Zd {r:dM} {k:Nat} (hk:k< (mo r).length):(firstM ((mo r).take k)).2=0:=by
 have hl:=E5 r;have hfl:(mo r).length=(nL r).1.length+6:=vR _;have h2:((mo r).take k).length=k:=by rw [List.length_take];omega
 by_cases hs:k<2
 ·rw [zR (by omega)];rfl
 have hpay:=Qg (p:=(nL r).1) (t:=[]) (by omega) (k:=k) (by omega);rw [List.append_nil] at hpay;have awV:dF ((mo r).take k)=(nL r).1.length:=hpay;rw [Mt (by omega) (by rw [h2,awV];omega)];rfl
theorem zi: ∀ {rs:List dM} {t:List UInt8},(∀ r∈rs,aQ r=0)->(firstM t).2=0->bZ (bH rs++t)=(rs,(bH rs).length)
 | [],t,_,ht=>Jh (by simpa [bH] using ht)
 | r::rs,t,h,ht=>by
  have e:bH (r::rs)++t=mo r++(bH rs++t):=by simp [bH,List.flatMap_cons]
  have hf:=V7 (h r (by simp)) (bH rs++t);have hlen:=AV r;rw [e,P9 (by rw [hf];show ¬ (mo r).length=0;omega),hf];simp only [List.drop_left];rw [zi (λx hx=>h x (by simp [hx])) ht];simp [bH,List.flatMap_cons]
theorem vo:(firstM []).2=0:=by rw [zR (by simp)];rfl
theorem Qh: ∀ (rs:List dM) (k:Nat),k<=(bH rs).length-> ∃ j t,(bH rs).take k=bH (rs.take j)++t/\(firstM t).2=0/\j<=rs.length
 | [],k,_=>⟨0,[],by simp [bH],vo,Nat.le_refl _⟩
 | r::rs,k,hk=>by
  have e:bH (r::rs)=mo r++bH rs:=by simp [bH,List.flatMap_cons]
  by_cases h:k< (mo r).length
  ·refine ⟨0,(mo r).take k,?_,Zd h,Nat.zero_le _⟩;rw [e,List.take_append_of_le_length (by omega)];simp [bH]
  rw [e,List.length_append] at hk;obtain ⟨j,t,h1,h2,h3⟩:=Qh rs (k-(mo r).length) (by omega);refine ⟨j+1,t,?_,h2,by simp;omega⟩;rw [e,List.take_append,List.take_of_length_le (by omega),h1];simp [bH,List.flatMap_cons]
theorem agQ {l:List UInt8} {s:Int} {r:dM} (h:aQ r=0) (h0:0<=s) (h1:s<=l.length) (hl:l.length+46<=100000):jd l s r=(l++mo r,s,0):=by
 unfold jd;have:=AV r;rw [if_neg (by simp [dH];omega),if_neg (by rw [afi h];simp),if_neg (by show ¬ _<_+(mo r).length;omega)];rfl
theorem Qi {l:List UInt8} {s:Int} {r:dM} (h:(jd l s r).2.2=0):jd l s r=(l++mo r,s,0)/\aQ r=0/\l.length+(mo r).length<=100000:=by
 unfold jd at h⊢
 split at h
 ·cases h
 split at h
 ·rename_i h2;exact absurd h h2
 split at h
 ·cases h
 rename_i h1 h2 h3
 rw [if_neg h1,if_neg h2,if_neg h3];refine ⟨rfl,?_,by show _+(jT (nL r).1).length<=_;omega⟩;unfold nL at h2
 split at h2
 ·exact Classical.not_not.1 h2
 rename_i h4;exact Classical.not_not.1 h4
end Go.Proofs.YtnhimdkpkmbhlaaGreatDoor
