import Derived.Test.YtlfgjcahpppbbaaGreatDoorG3ef19
import Derived.Test.YtlfgjcahpppbbaaGreatDoorG94624
import Derived.Test.YtlfgjcahpppbbaaGreatDoorGf1f46
set_option maxRecDepth 100000
set_option maxHeartbeats 8000000
set_option linter.unusedSimpArgs false
set_option linter.unusedVariables false
namespace Go.Proofs.YtlfgjcahpppbbaaGreatDoor
open ChangeShapes WideShapes RowKit
def qg (l:List UInt8):Int:=l.foldl (λs c=>s*256+(c.toNat:Int)) 0
theorem abU (l:List UInt8) (c:UInt8):qg (l++[c])=qg l*256+c.toNat:=by simp [qg]
theorem ak7: ∀ (l:List UInt8),l.length<=4->0<=qg l/\qg l<=4294967295
 | [],_=>by simp [qg]
 | [a],_=>by have:=u8_in a;simp [qg];omega
 | [a,b],_=>by have:=u8_in a;have:=u8_in b;simp [qg];omega
 | [a,b,c],_=>by have:=u8_in a;have:=u8_in b;have:=u8_in c;simp [qg];omega
 | [a,b,c,d],_=>by have:=u8_in a;have:=u8_in b;have:=u8_in c;have:=u8_in d;simp [qg];omega
 | _::_::_::_::_::_,h=>by simp at h
def Dy:dD×Nat:=(pW,0)
def bZ (b:List UInt8):Nat:=match b with
 | x::y::_=>x.toNat*256+y.toNat
 | _=>0
def firstM (b:List UInt8):dD×Nat:=
 if b.length<2 then Dy else if b.length<bZ b+6 then Dy else if qg ((b.drop (2+bZ b)).take 4)≠AJ (b.take (2+bZ b)) then Dy
 else if (tF ((b.drop 2).take (bZ b))).2≠0 then Dy else ((tF ((b.drop 2).take (bZ b))).1,bZ b+6)
section
variable {b:List UInt8}
theorem zU (h:b.length<2):firstM b=Dy:=if_pos h
theorem LA (h: ¬ b.length<2) (h1:b.length<bZ b+6):firstM b=Dy:=by unfold firstM;rw [if_neg h,if_pos h1]
theorem Ym (h: ¬ b.length<2) (h1: ¬ b.length<bZ b+6) (h2:qg ((b.drop (2+bZ b)).take 4)≠AJ (b.take (2+bZ b))):firstM b=Dy:=by unfold firstM;rw [if_neg h,if_neg h1,if_pos h2]
theorem Yn (h: ¬ b.length<2) (h1: ¬ b.length<bZ b+6) (h2:qg ((b.drop (2+bZ b)).take 4)=AJ (b.take (2+bZ b))) (h3:(tF ((b.drop 2).take (bZ b))).2≠0):firstM b=Dy:=by
 unfold firstM;rw [if_neg h,if_neg h1,if_neg (by simpa using h2),if_pos h3]
theorem Oy (h: ¬ b.length<2) (h1: ¬ b.length<bZ b+6) (h2:qg ((b.drop (2+bZ b)).take 4)=AJ (b.take (2+bZ b))) (h3:(tF ((b.drop 2).take (bZ b))).2=0):firstM b=((tF ((b.drop 2).take (bZ b))).1,bZ b+6):=by
 unfold firstM;rw [if_neg h,if_neg h1,if_neg (by simpa using h2),if_neg (by simpa using h3)]
theorem yt:(firstM b).2<=b.length:=by
 unfold firstM Dy
 split
 ·exact Nat.zero_le _
 split
 ·exact Nat.zero_le _
 split
 ·exact Nat.zero_le _
 split
 ·exact Nat.zero_le _
 simp;omega
theorem arz {x y:UInt8} (hx:b[0]? =some x) (hy:b[1]? =some y):bZ b=x.toNat*256+y.toNat:=by
 match b,hx,hy with
 | x'::y'::r,hx,hy=>
  simp at hx hy;subst hx;subst hy;rfl
 | [_],_,hy=>simp at hy
end
def qB:Nat->List UInt8->List dD×Nat
 | 0,_=>([],0)
 | f+1,b=>if (firstM b).2=0 then ([],0) else ((firstM b).1::(qB f (b.drop (firstM b).2)).1,(firstM b).2+(qB f (b.drop (firstM b).2)).2)
theorem Im: ∀ (f g:Nat) (b:List UInt8),b.length<f->b.length<g->qB f b=qB g b
 | 0,_,b,h,_=>absurd h oQ
 | _,0,b,_,h=>absurd h oQ
 | f+1,g+1,b,hf,hg=>by
  unfold qB;by_cases h:(firstM b).2=0
  ·rw [if_pos h,if_pos h]
  rw [if_neg h,if_neg h,Im f g _ (by rw [List.length_drop];have:= @yt b;omega) (by rw [List.length_drop];have:= @yt b;omega)]
def bO (b:List UInt8):List dD×Nat:=qB (b.length+1) b
theorem Io {b:List UInt8} (h:(firstM b).2=0):bO b=([],0):=by unfold bO qB;rw [if_pos h]
theorem Oz {b:List UInt8} (h: ¬ (firstM b).2=0):bO b=((firstM b).1::(bO (b.drop (firstM b).2)).1,(firstM b).2+(bO (b.drop (firstM b).2)).2):=by
 unfold bO;rw [qB,if_neg h,Im b.length ((b.drop (firstM b).2).length+1) _ (by rw [List.length_drop];have:= @yt b;omega) oQ]
theorem OB: ∀ (f:Nat) (b:List UInt8),(qB f b).2<=b.length/\(qB f b).1.length<=b.length
 | 0,b=>by simp [qB]
 | f+1,b=>by
  unfold qB
  split
  ·simp
  rename_i h
  have h1:=OB f (b.drop (firstM b).2);rw [List.length_drop] at h1;have h2:= @yt b;simp;omega
def uI (l:List UInt8) (s:Int):List dD×Nat×Int:=if cB l s=true then ((bO l).1,(bO l).2,0) else ([],0,6)
def dD.cells (r:dD):List Value:=[iV r.kind,iV r.queue,iV r.epoch,iV r.peer,iV r.ev.kind,iV r.ev.producer,iV r.ev.id,iV r.ev.body,iV r.ev.aG,iV r.ev.hno]
def agL (w:World) (r:List dD×Nat×Int) (e:Ending) (w':World):Prop:=
 ∃ A c,e= .returned (.tuple #[.slice A r.1.length c,iV (r.2.1:Int),iV r.2.2])/\St w.heap.size w w' [.own 171 10 (.slice A r.1.length c) r.1.length (r.1.flatMap dD.cells)]
def Ml (x:UInt8):List Value:=[.int .u8 x.toNat]
theorem Tp (l:List UInt8):byteCells l=l.flatMap Ml:=by
 induction l with
 | nil=>rfl
 | cons a l ih=>rw [List.flatMap_cons,<-ih];rfl
theorem aui {w:World} {B:Nat} {A:Option Addr} {n:Nat} {l:List UInt8} (h:Rd w B 1 A n (byteCells l)):Rd w B 1 A n (l.flatMap Ml):=Tp l▸h
theorem aoo {w:World} {B:Nat} {A:Option Addr} {n:Nat} {l:List UInt8} (h:Rd w B 1 A n (l.flatMap Ml)):Rd w B 1 A n (byteCells l):=(Tp l).symm▸h
theorem aeW {l:List UInt8}:(l.take 4).take 4=l.take 4:=by simp [List.take_take]
theorem abV {l:List UInt8} {k:Nat} {x:UInt8} (h:l[k]? =some x):qg (l.take k)*256+(x.toNat:Int)=qg (l.take (k+1)):=by
 rw [List.take_add_one,h,<-abU];rfl
def abW (w:World) (r:dD×Nat) (e:Ending) (w':World):Prop:=e= .returned (.tuple #[r.1.val,iV (r.2:Int)])/\Below w.heap.size w w'
theorem Vb (A:Option Addr) (c:Nat) (b:List UInt8) (w:World) (h:Rd w w.heap.size 1 A b.length (byteCells b)) (hn:b.length<=c) (hcm:c<=9223372036854775807) (hb:b.length<=100000):
    Calls Tryz.prog 75 #[.slice A b.length c] w (abW w (firstM b)):=by
 have S:=(St.start w).bL (aui h);refine gu 69 Tryz.func75 ?_;refine cw [0] ?_;refine zN 2 ?_;refine gq S xE ?_;intro b1 w2 S3;refine zN 8 ?_;by_cases h4:((b.length:Nat):Int)<2
 ·refine zN 7 ?_;refine sa 0 S3 kQ ?_;intro w5 S6;refine zN 6 ?_;exact ⟨by rw [zU oQ];rfl,S6.low⟩
 refine zN 7 ?_;refine bV S3 mixed kQ ?_;refine zQ ?_;obtain ⟨b8,o9,rfl⟩:=Rd.addr (St.rd 1 S3 rfl) oQ;obtain ⟨x10,WR⟩:=DT 0 (St.rd 1 S3 rfl) oQ;refine uv (λ_ _=>jf 0) ?_;refine uv (v:= .int .u8 ((x10).toNat:Int)) (λ_ Sb=>(aj rfl rfl (aC (Rd.KU (i:=0) (St.rd 1 Sb rfl) (aW (enc:=Ml) (sz:=1) (λ_=>rfl) WR rfl))))) ?_;refine uv (v:=iV ((x10).toNat:Int)) (λ_ _=>(Gy rfl rfl (Qb (a:=x10) rfl kQ))) ?_;have aJK:=u8_in x10;refine uv (v:=iV (((x10).toNat:Int)*256)) (λ_ _=>(bE rfl rfl rfl (aey rfl oQ oQ))) ?_;refine uv (v:=iV (2+(((x10).toNat:Int)*256))) (λ_ _=>fJ) ?_;refine zQ ?_;obtain ⟨x19,auj⟩:=DT 1 (St.rd 1 S3 rfl) oQ;refine uv (λ_ _=>jf 1) ?_;refine uv (v:= .int .u8 ((x19).toNat:Int)) (λ_ GK=>(aj rfl rfl (aC (Rd.KU (i:=0) (St.rd 1 GK rfl) (aW (enc:=Ml) (sz:=1) (λ_=>rfl) auj rfl))))) ?_;refine uv (v:=iV ((x19).toNat:Int)) (λ_ _=>(Gy rfl rfl (Qb (a:=x19) rfl kQ))) ?_;have aJL:=u8_in x19;have aJM:=arz WR auj;have aJN:bZ b<=65535:=oQ;refine uv (v:=iV ((2+bZ b:Nat):Int)) (λ_ _=>(bE rfl rfl rfl (by rw [show ((2+bZ b:Nat):Int)=2+(((x10).toNat:Int)*256)+((x19).toNat:Int) by omega];exact adR oQ oQ))) ?_;refine zQ ?_;refine dh λVN qH=>?_;refine zN 7 ?_;refine vv (v:=iV (((2+bZ b)+4:Nat):Int)) fJ ?_;by_cases h30:((b.length:Nat):Int)< (((2+bZ b)+4:Nat):Int)
 ·refine zN 7 ?_;refine sa 0 qH kQ ?_;intro ZI pU;refine zN 6 ?_;exact ⟨by rw [LA oQ oQ];rfl,pU.low⟩
 refine zN 17 ?_;refine vv (v:=iV (((2+bZ b)+4:Nat):Int)) fJ ?_;refine zQ ?_;refine vv (v:=iV (((2+bZ b)+4:Nat):Int)) fJ ?_;obtain ⟨A33,aA9,aop⟩:=Oe (b:=b) (c:=c) (lo:=(some (iV ((2+bZ b:Nat):Int)))) (hi:=(some (iV (((2+bZ b)+4:Nat):Int)))) (mx:=(some (iV (((2+bZ b)+4:Nat):Int)))) (l:=2+bZ b) (k:=2+bZ b+4) (q:=2+bZ b+4) (m:=4) (c':=4) Tryz.underlying107 kQ (aex (2+bZ b) (2+bZ b+4) (2+bZ b+4) rfl rfl rfl oQ oQ oQ) (aoo (show Rd _ _ _ _ _ _ from qH.all 1 _ rfl)) oQ oQ oQ oQ oQ
 replace aop:Rd _ _ _ _ _ (((b.drop (2+bZ b)).take 4).flatMap Ml):=aui aop
 have nQ:=qH.bL aop;refine vv (v:= .slice A33 4 4) (jR rfl rfl (jo rfl) (jo rfl) (jo rfl) (aA9 _)) ?_;refine zN 5 ?_;refine dN (X:=Nat) (λxv=>[(0,.slice (some ⟨b8,o9,none⟩) b.length c),(2,.pointer (some ⟨b1,0,none⟩)),(3,iV 0),(4,iV ((2+bZ b:Nat):Int)),(37,.slice A33 4 4),(38,iV 4),(5,iV (qg (((b.drop (2+bZ b)).take 4).take xv))),(39,iV ((xv:Nat):Int))]) (λxv wr=>(xv<=4)/\St w.heap.size w wr [.rd 1 A33 4 (((b.drop (2+bZ b)).take 4).flatMap Ml),.blk b1 #[iV 0,iV 0,iV 0,iV 0,iV 0,iV 0,iV 0,iV 0,iV 0,iV 0] 171,.rd 1 (some ⟨b8,o9,none⟩) b.length ((b).flatMap Ml)]) (λxv=>4-xv) (0) ?_ ?_ ?_
 ·exact ⟨Nat.zero_le _,nQ⟩
 ·exact Ho
 rintro k Te ⟨Sd,qJ⟩
 try dsimp only at Sd qJ
 refine aZ (l':=[(0,.slice (some ⟨b8,o9,none⟩) b.length c),(2,.pointer (some ⟨b1,0,none⟩)),(3,iV 0),(4,iV ((2+bZ b:Nat):Int)),(37,.slice A33 4 4),(38,iV 4),(5,iV (qg (((b.drop (2+bZ b)).take 4).take k))),(39,iV ((k:Nat):Int))]) Ho (aH (ay ?_));by_cases h40:((k:Nat):Int)<4
 ·refine zN 11 ?_;obtain ⟨b41,o42,rfl⟩:=Rd.addr (St.rd 0 qJ rfl) oQ;obtain ⟨x43,auk⟩:=DT k (St.rd 0 qJ rfl) oQ;refine vv (jf k) ?_;refine vv (aj rfl rfl (aC (Rd.KU (i:=0) (St.rd 0 qJ rfl) (aW (enc:=Ml) (sz:=1) (λ_=>rfl) auk rfl)))) ?_;refine zN 5 ?_;have aJO:=ak7 (((b.drop (2+bZ b)).take 4).take k) jQ;refine vv (v:=iV (qg (((b.drop (2+bZ b)).take 4).take k)*256)) (bE rfl rfl rfl (aey rfl oQ oQ)) ?_;refine zQ ?_;refine vv (v:=iV ((x43).toNat:Int)) (Gy rfl rfl (Qb (a:=x43) rfl kQ)) ?_;have aJP:=u8_in x43;refine vv (v:=iV (qg (((b.drop (2+bZ b)).take 4).take k)*256+((x43).toNat:Int))) (bE rfl rfl rfl (awj rfl oQ oQ oQ oQ)) ?_;refine zN 5 ?_;refine vv (v:=iV ((k+1:Nat):Int)) fJ ?_;refine zN 2 ?_;refine aM (k+1) ?_ ⟨rfl,rfl,rfl,rfl,rfl,rfl,(aqL (abV auk)),rfl,trivial⟩ (by first | omega | (dsimp only;omega));exact ⟨oQ,qJ⟩
 refine zN 16 ?_;obtain ⟨M7,aBa,aoq⟩:=Oe (b:=b) (c:=c) (lo:=none) (hi:=(some (iV ((2+bZ b:Nat):Int)))) (mx:=none) (l:=0) (k:=2+bZ b) (q:=c) (m:=2+bZ b) (c':=c) Tryz.underlying107 kQ (azV (2+bZ b) rfl oQ) (aoo (show Rd _ _ _ _ _ _ from qJ.all 2 _ rfl)) oQ oQ oQ oQ oQ
 replace aoq:Rd _ _ _ _ _ (byteCells (b.take (2+bZ b))):=aoq
 have oU:=qJ.bL aoq;refine vv (v:= .slice M7 (2+bZ b) c) (jR rfl rfl nO (jo rfl) nO (aBa _)) ?_;refine dF eQ (Og _ _ _ (b.take (2+bZ b)) _ (St.rd 0 oU rfl) oQ) ?_;rintro _ SX ⟨rfl,q53,rfl⟩;refine ⟨_,rfl,?_⟩;have lU:=oU.drewN q53;obtain rfl:k=4:=oQ;by_cases h54:qg ((b.drop (2+bZ b)).take 4)=AJ (b.take (2+bZ b))
 ·refine vv (v:= .bool false) (bE rfl rfl rfl (PY (by rw [aeW];exact h54))) ?_;refine zN 9 ?_;obtain ⟨A55,aBb,aor⟩:=Oe (b:=b) (c:=c) (lo:=(some (iV 2))) (hi:=(some (iV ((2+bZ b:Nat):Int)))) (mx:=none) (l:=2) (k:=2+bZ b) (q:=c) (m:=bZ b) (c':=c-2) Tryz.underlying107 kQ (Wx 2 (2+bZ b) rfl rfl oQ oQ) (aoo (show Rd _ _ _ _ _ _ from lU.all 3 _ rfl)) oQ oQ oQ oQ oQ
  replace aor:Rd _ _ _ _ _ (byteCells ((b.drop 2).take (bZ b))):=aor
  have D6:=lU.bL aor;refine vv (v:= .slice A55 (bZ b) (c-2)) (jR rfl rfl (jo rfl) (jo rfl) nO (aBb _)) ?_;refine cab eQ D6 (Q5 A55 (bZ b) (c-2) ((b.drop 2).take (bZ b)) _ (St.rd 0 D6 rfl) oQ (by unfold maxLen;omega)) ?_;intro w59 VX;refine zN 3 ?_;refine gq VX xE ?_;intro b62 w63 S64;refine sa 0 S64 kQ ?_;intro w65 F3;refine zN 7 ?_;by_cases yu:(tF ((b.drop 2).take (bZ b))).2=0
  ·refine zN 10 ?_;refine vv (v:=iV (((2+bZ b)+4:Nat):Int)) fJ ?_;refine sa 4 F3 kQ ?_;intro w68 uE;refine zN 5 ?_;exact ⟨by rw [Oy oQ oQ h54 yu];exact congrArg Ending.returned (by show Value.tuple #[_,iV _]=Value.tuple #[_,iV _];rw [show ((2+bZ b+4:Nat):Int)=((bZ b+6:Nat):Int) by omega];rfl),uE.low⟩
  refine zN 7 ?_;refine sa 4 F3 kQ ?_;intro Zz lu;refine zN 6 ?_;exact ⟨by rw [Yn oQ oQ h54 yu];rfl,lu.low⟩
 refine vv (v:= .bool true) (bE rfl rfl rfl (Y4 (by rw [aeW];exact h54))) ?_;refine zN 6 ?_;refine sa 2 lU kQ ?_;intro w72 tY;refine zN 6 ?_;exact ⟨by rw [Ym oQ oQ h54];rfl,tY.low⟩
theorem OC {w:World} {base:Nat} {e:TypeId} {size:Nat} {A:Option Addr} {n c:Nat} {xs:List Value} (h:w.ownsRow base e size (.slice A n c) n xs):n<=c/\c<=maxLen:=by
 obtain ⟨A',c',e1,h1,h2⟩:=mJ h
 cases e1;exact ⟨h1,h2⟩
theorem Ri {l:List UInt8}:bO l=([]++(bO (l.drop 0)).1,0+(bO (l.drop 0)).2):=by simp
theorem Ve {l:List UInt8} {acc:List dD} {p:Nat} (h:bO l=(acc++(bO (l.drop p)).1,p+(bO (l.drop p)).2)) (h1: ¬ (firstM (l.drop p)).2=0):
  bO l=(acc++[(firstM (l.drop p)).1]++(bO (l.drop (p+(firstM (l.drop p)).2))).1,p+(firstM (l.drop p)).2+(bO (l.drop (p+(firstM (l.drop p)).2))).2):=by
 rw [h,Oz h1,List.drop_drop,List.append_assoc,Nat.add_assoc];rfl
theorem abX {l:List UInt8} {s:Int} {acc:List dD} {p:Nat} (hm:cB l s=true) (h:bO l=(acc++(bO (l.drop p)).1,p+(bO (l.drop p)).2)) (h1:(firstM (l.drop p)).2=0):uI l s=(acc,p,0):=by
 unfold uI;rw [if_pos hm,h,Io h1];simp
theorem Ed (A:Option Addr) (c:Nat) (l:List UInt8) (s:Int) (w:World) (h:Rd w w.heap.size 1 A l.length (byteCells l)):
    Calls Tryz.prog 48 #[.agg #[.slice A l.length c,iV s]] w (agL w (uI l s)):=by
 have S:=(St.start w).bL h;refine gu 37 Tryz.func48 ?_;refine cw [0] ?_;refine zN 2 ?_;refine iH S ?_;intro b1 w2 S3;refine zN 8 ?_
 rcases Ba l s with ⟨ho,hm⟩ | ⟨ho,hm⟩
 ·have HO:=λw h=>lM A l.length c l s w h;rw [ho] at HO;refine dF eQ (HO _ (St.rd 1 S3 rfl)) ?_;rintro _ w8 ⟨A4,c5,rfl,hb6,hO7⟩;refine ⟨_,rfl,?_⟩;have S9:=S3.uo hb6 hO7;clear HO hb6 hO7 S3;change St _ _ _ [.own 5 1 (.slice A4 l.length c5) l.length (byteCells l),.blk b1 #[.slice A l.length c,iV s] 109,.rd 1 A l.length (byteCells l)] at S9;have hcap:=OC (S9.own 0 rfl);unfold maxLen at hcap;have hlen:l.length<=100000:=(oI hm).1;refine zN 3 ?_;refine gq S9 zI ?_;intro b10 GI l5;refine sa 0 l5 kQ ?_;intro Ey kD;refine zN 15 ?_;have iG:=kD.nil 171 10;refine zN 9 ?_;have lV:=iG.aP [4];refine dN (X:=(List dD)×Nat×Nat×(Option Addr)×Nat) (λxv=>[(2,.slice none 0 0),(3,iV 0),(4,iV 0),(5,.pointer (some ⟨b10,0,none⟩)),(7,.slice xv.2.2.2.1 xv.2.2.1 xv.2.2.2.2),(8,iV ((xv.2.1:Nat):Int))]) (λxv wr=>(bO l=(xv.1++(bO (l.drop xv.2.1)).1,xv.2.1+(bO (l.drop xv.2.1)).2))/\(xv.2.1<=l.length)/\(xv.2.2.1<=xv.2.1)/\(xv.2.2.1=xv.1.length)/\St w.heap.size w wr [.own 171 10 (.slice xv.2.2.2.1 xv.2.2.1 xv.2.2.2.2) xv.2.2.1 ((xv.1).flatMap dD.cells),.blk b10 #[.slice A4 l.length c5,iV s] 109,.own 5 1 (.slice A4 l.length c5) l.length (byteCells l),.blk b1 #[.slice A l.length c,iV s] 109]) (λxv=>l.length-xv.2.1) ([],0,0,none,0) ?_ ?_ ?_
  ·exact ⟨Ri,Nat.zero_le _,Nat.le_refl _,rfl,lV⟩
  ·exact rP
  rintro ⟨acc,p,m,A9,c9⟩ Lb ⟨Sg,aos,hi21,hi22,jc⟩
  try dsimp only at Sg aos hi21 hi22 jc
  refine aZ (l':=[(2,.slice none 0 0),(3,iV 0),(4,iV 0),(5,.pointer (some ⟨b10,0,none⟩)),(7,.slice A9 m c9),(8,iV ((p:Nat):Int))]) ⟨rfl,rfl,rfl,rfl,rfl,rfl,trivial⟩ (EO (aH (ay (vv (oG 0 Zc) ?_))));refine zN 2 ?_;obtain ⟨A23,aBd,aum⟩:=Oe (b:=l) (c:=c5) (lo:=(some (iV ((p:Nat):Int)))) (hi:=none) (mx:=none) (l:=p) (k:=l.length) (q:=c5) (m:=(l.drop p).length) (c':=c5-p) Tryz.underlying107 kQ (ahX p rfl oQ) (St.ord 2 jc rfl) oQ oQ oQ List.length_drop.symm rfl;rw [List.take_length] at aum;refine vv (v:= .slice A23 ((l.drop p).length) (c5-p)) (jR rfl rfl (jo rfl) nO nO (aBd _)) ?_;refine dF eQ (Vb A23 (c5-p) (l.drop p) _ aum (by rw [List.length_drop];omega) oQ (by rw [List.length_drop];omega)) ?_;rintro _ Om ⟨rfl,aii⟩;refine ⟨_,rfl,?_⟩;have tX:=jc.on aii;clear aii jc;have hfl:= @yt (l.drop p);rw [List.length_drop] at hfl;refine zN 3 ?_;refine gq tX xE ?_;intro b29 SS kV;refine sa 0 kV kQ ?_;intro w32 rW;refine zN 7 ?_;by_cases h34:(((firstM (l.drop p)).2:Nat):Int)=0
  ·refine zN 19 ?_;have uf:=rW.aP [4,3,2,0];have hz:uI l s=(acc,p,0):=abX hm Sg oQ;rw [hz];subst hi22;exact ⟨_,_,rfl,uf⟩
  refine zN 10 ?_;refine NY rW ?_;intro qK Te qJ;refine dx (news:=[iV ((firstM (l.drop p)).1.kind),iV ((firstM (l.drop p)).1.queue),iV ((firstM (l.drop p)).1.epoch),iV ((firstM (l.drop p)).1.peer),iV ((firstM (l.drop p)).1.ev.kind),iV ((firstM (l.drop p)).1.ev.producer),iV ((firstM (l.drop p)).1.ev.id),iV ((firstM (l.drop p)).1.ev.body),iV ((firstM (l.drop p)).1.ev.aG),iV ((firstM (l.drop p)).1.ev.hno)]) (xs':=(acc++[(firstM (l.drop p)).1]).flatMap dD.cells) 2 qJ (wn rfl) rfl rfl rfl rfl rfl rfl (St.lD (xs:=[iV ((firstM (l.drop p)).1.kind),iV ((firstM (l.drop p)).1.queue),iV ((firstM (l.drop p)).1.epoch),iV ((firstM (l.drop p)).1.peer),iV ((firstM (l.drop p)).1.ev.kind),iV ((firstM (l.drop p)).1.ev.producer),iV ((firstM (l.drop p)).1.ev.id),iV ((firstM (l.drop p)).1.ev.body),iV ((firstM (l.drop p)).1.ev.aG),iV ((firstM (l.drop p)).1.ev.hno)]) 0 qJ rfl rfl rfl) Tryz.underlying147 P9 rfl dQ (bM rfl) lQ oQ (iU (enc:=dD.cells) rfl rfl) ?_;intro Ik c40 w41 aJQ aJR wo;refine zN 6 ?_;refine vv (v:=iV ((p+((firstM (l.drop p)).2):Nat):Int)) fJ ?_;refine zN 3 ?_;have nX:=wo.aP [1,0];refine aM (acc++[(firstM (l.drop p)).1],p+(firstM (l.drop p)).2,m+1,Ik,c40) ?_ rP (by first | omega | (dsimp only;omega));exact ⟨(Ve Sg oQ),uQ,uQ,(by dsimp only;simp [hi22]),nX⟩
 have HO:=λw h=>lM A l.length c l s w h;rw [ho] at HO;refine dF eQ (HO _ (St.rd 1 S3 rfl)) ?_;rintro _ VK ⟨A46,c47,rfl,hb48,aun⟩;refine ⟨_,rfl,?_⟩;have uX:=S3.uo hb48 aun;clear HO hb48 aun S3;refine zN 3 ?_;refine gq uX zI ?_;intro b52 w53 l7;refine sa 0 l7 kQ ?_;intro w55 F4;refine zN 21 ?_;have qW:=F4.aP [3,2,1,0];rw [show uI l s=([],0,6) from if_neg (by rw [hm];simp)];exact ⟨none,0,rfl,qW.nil 171 10⟩
theorem ak8 {l:List UInt8} {s:Int} (h:cB l s=true):IE l s=(l,s,true):=by
 rcases Ba l s with ⟨h1,_⟩ | ⟨_,h1⟩
 ·exact h1
 rw [h] at h1;cases h1
def jr (l:List UInt8) (s:Int):List UInt8×Int×Int:=if cB l s=true then (l.take (bO l).2,min s (bO l).2,0) else ([],0,6)
def ak9 (w:World) (r:List UInt8×Int×Int) (e:Ending) (w':World):Prop:=
 ∃ A c,e= .returned (.tuple #[.agg #[.slice A r.1.length c,iV r.2.1],iV r.2.2])/\St w.heap.size w w' [.bJ 1 A r.1.length (byteCells r.1)]
theorem Rj (A:Option Addr) (c:Nat) (l:List UInt8) (s:Int) (w:World) (h:Rd w w.heap.size 1 A l.length (byteCells l)):
    Calls Tryz.prog 47 #[.agg #[.slice A l.length c,iV s]] w (ak9 w (jr l s)):=by
 have S:=(St.start w).bL h;refine gu 34 Tryz.func47 ?_;refine cw [0] ?_;refine zN 2 ?_;refine iH S ?_;intro b1 w2 S3;refine gq S3 zI ?_;intro b4 w5 S6;refine zN 6 ?_;have hle:=OB (l.length+1) l;rw [<-show bO l=qB (l.length+1) l from rfl] at hle
 cases hm:cB l s
 ·have HR:=λw h=>Ed A c l s w h;rw [show uI l s=([],0,6) from if_neg (by rw [hm];simp)] at HR;refine dF eQ (HR _ (St.rd 2 S6 rfl)) ?_;rintro _ w9 ⟨A7,c8,rfl,T11⟩;refine ⟨_,rfl,?_⟩;have qx:=S6.ext T11 rfl;change St _ _ _ [.own 171 10 (.slice A7 (([]:List dD).length) c8) (([]:List dD).length) ((([]:List dD)).flatMap dD.cells),_,_,_] at qx;refine zN 21 ?_;refine sa 1 qx kQ ?_;intro ZC uZ;refine zN 6 ?_;have kD:=uZ.aP [3,2,1,0];rw [show jr l s=([],0,6) from if_neg (by rw [hm];simp)];exact ⟨none,0,rfl,aB kD⟩
 have HR:=λw h=>Ed A c l s w h;rw [show uI l s=((bO l).1,(bO l).2,0) from if_pos hm] at HR;have hlen:l.length<=100000:=(oI hm).1;refine dF eQ (HR _ (St.rd 2 S6 rfl)) ?_;rintro _ Lb ⟨A15,c16,rfl,T19⟩;refine ⟨_,rfl,?_⟩;have jc:=S6.ext T19 rfl;change St _ _ _ [.own 171 10 (.slice A15 ((bO l).1.length) c16) ((bO l).1.length) (((bO l).1).flatMap dD.cells),_,_,_] at jc;refine zN 8 ?_;refine JH (vv (v:=iV 0) ym ?_);refine vv avP ?_;refine zN 8 ?_;have HO:=λw h=>lM A l.length c l s w h;rw [ak8 hm] at HO;refine dF eQ (HO _ (St.rd 3 jc rfl)) ?_;rintro _ Oq ⟨A20,c21,rfl,abB,auo⟩;refine ⟨_,rfl,?_⟩;have jE:=jc.uo abB auo;clear HO abB auo jc;change St _ _ _ [.own 5 1 (.slice A20 l.length c21) l.length (byteCells l),.own 171 10 (.slice A15 ((bO l).1.length) c16) ((bO l).1.length) (((bO l).1).flatMap dD.cells),.blk b4 #[.slice none 0 0,iV 0] 109,.blk b1 #[.slice A l.length c,iV s] 109,.rd 1 A l.length (byteCells l)] at jE;have hcap:=OC (jE.own 0 rfl);unfold maxLen at hcap;refine zN 3 ?_;refine gq jE zI ?_;intro b26 MW qy;refine sa 0 qy kQ ?_;intro w29 Cj;refine zN 4 ?_;have kV:=Cj.drew;refine fC 12 10 kV [] ?_;iterate 4 refine gU ?_
 obtain ⟨A36,aBe,aBf,aBg⟩:=aku (b:=l) (A:=A20) (c:=c21) (lo:=none) (hi:=some (iV (((bO l).2:Nat):Int))) (mx:=some (iV (((bO l).2:Nat):Int))) (l:=0) (k:=(bO l).2) (q:=(bO l).2) (m:=(bO l).2) (c':=(bO l).2) Tryz.underlying107 kQ (amy ((bO l).2) ((bO l).2) rfl rfl (Nat.le_refl _) oQ) oQ oQ oQ rfl rfl;refine gk (v:= .slice A36 ((bO l).2) ((bO l).2)) 4 rfl kV (λ_ _=>(jR rfl rfl nO (jo rfl) (jo rfl) (aBe _))) ?_;iterate 3 refine gU ?_
 refine Er (v:=iV (min s ((((bO l).2:Nat):Int)))) (i:=8) (m:=3) rfl kQ kQ kQ rfl kQ rfl kV rfl (wn rfl) rfl rfl (λ_ _=>(qR (vs:=[iV s,iV (((bO l).2:Nat):Int)]) rfl xU λ_=>amA)) ?_;refine Er (v:= .agg #[.slice A36 ((bO l).2) ((bO l).2),iV (min s ((((bO l).2:Nat):Int)))]) (i:=9) (m:=2) rfl kQ kQ kQ rfl kQ rfl kV rfl (wn rfl) rfl rfl (λ_ _=>(En (vs:=[(0,.slice A36 ((bO l).2) ((bO l).2)),(1,iV (min s ((((bO l).2:Nat):Int))))]) rfl ji kQ)) ?_;refine eU kQ rfl rfl rfl ?_;refine sa 3 kV kQ ?_;intro VW yg;refine zN 2 ?_;refine iY ?_;refine zN 3 ?_;have vO:=yg.seal 1 rfl (aBf _ _ (St.ord 1 yg rfl)) (λa h=>aBg a h);have uF:=vO.aP [5,4,3,2,0];have hlt:(l.take (bO l).2).length=(bO l).2:=by rw [List.length_take];omega
 rw [show jr l s=(l.take (bO l).2,min s (bO l).2,0) from if_pos hm];exact ⟨A36,(bO l).2,by rw [hlt];rfl,by rw [hlt];exact uF⟩
theorem Fj {a:UInt8} {n:Int} (h:n=a.toNat):UInt8.ofNat n.toNat=a:=by
 subst h;simp
theorem abY {a b c d:UInt8} {n:Int} (h:n=16777216*(a.toNat:Int)+65536*(b.toNat:Int)+256*(c.toNat:Int)+(d.toNat:Int)):Ao n=[a,b,c,d]:=by
 have:=u8_in a;have:=u8_in b;have:=u8_in c;have:=u8_in d;unfold Ao;rw [Fj (a:=a) oQ,Fj (a:=b) oQ,Fj (a:=c) oQ,Fj (a:=d) oQ]
theorem OD {a b c d:UInt8}:qg [a,b,c,d]=16777216*(a.toNat:Int)+65536*(b.toNat:Int)+256*(c.toNat:Int)+(d.toNat:Int):=by
 simp [qg];omega
theorem agM {q:List UInt8} {s:Int} (hq:q.length=4) (h0:0<=s) (h1:s<=4294967295):qg q=s↔Ao s=q:=by
 match q,hq with
 | [a,b,c,d],_=>
  constructor
  ·intro h;rw [OD] at h;exact abY h.symm
  intro h;have ha:=u8_in a;have hb:=u8_in b;have hc:=u8_in c;have hd:=u8_in d;unfold Ao at h;simp only [List.cons.injEq,and_true] at h;obtain ⟨e1,e2,e3,e4⟩:=h;subst e1;subst e2;subst e3;subst e4;rw [OD];simp only [UInt8.toNat_ofNat'];omega
section
variable {b:List UInt8}
theorem Yo (h: ¬ b.length<2) (h1: ¬ b.length<bZ b+6):headed ((b.drop 2).take (bZ b))=b.take (2+bZ b):=by
 match b,h,h1 with
 | x::y::r,_,h1=>
  have e:bZ (x::y::r)=x.toNat*256+y.toNat:=rfl;have hx:=x.toNat_lt;have hy:=y.toNat_lt;have hl:((List.drop 2 (x::y::r)).take (bZ (x::y::r))).length=bZ (x::y::r):=by
   rw [List.length_take,List.length_drop];omega
  unfold headed;rw [hl,show UInt8.ofNat (bZ (x::y::r) / 256)=x by rw [e,show (x.toNat*256+y.toNat) / 256=x.toNat by omega];simp,
   show UInt8.ofNat (bZ (x::y::r) % 256)=y by rw [e,show (x.toNat*256+y.toNat) % 256=y.toNat by omega];simp]
  rw [Nat.add_comm 2];rfl
 | [],h,_=>simp at h
 | [_],h,_=>simp at h
theorem abZ (h: ¬ b.length<2) (h1: ¬ b.length<bZ b+6):qg ((b.drop (2+bZ b)).take 4)=AJ (b.take (2+bZ b))↔jL ((b.drop 2).take (bZ b))=b.take (bZ b+6):=by
 unfold jL;rw [Yo h h1,show bZ b+6=(2+bZ b)+4 by omega,List.take_add (i:=2+bZ b) (j:=4),List.append_cancel_left_eq];obtain ⟨s0,s1⟩:=K7 (b.take (2+bZ b));exact agM (by rw [List.length_take,List.length_drop];omega) s0 oQ
theorem Rk (h: ¬ b.length<2) (h1: ¬ b.length<bZ b+6) (h3:(tF ((b.drop 2).take (bZ b))).2=0) (hf:jL ((b.drop 2).take (bZ b))=b.take (bZ b+6)):firstM b=((tF ((b.drop 2).take (bZ b))).1,bZ b+6):=
 Oy h h1 ((abZ h h1).2 hf) h3
end
def JY (n:Int):Prop:=0<=n/\n<=2147483647
theorem ala {n:Int} (h:JY n):(qO n).1=Ao n:=by unfold qO;unfold JY at h;rw [if_pos h]
theorem agN {n:Int} (h:JY n) (t:List UInt8):ou (Ao n++t)=(n,0):=by
 obtain ⟨h0,h1⟩:=h;unfold Ao ou;simp only [List.cons_append,List.nil_append,UInt8.toNat_ofNat'];rw [if_neg oQ];simp only [Prod.mk.injEq,and_true];omega
theorem GV {n:Int} {l:List Int} (h:JY n):jJ (n::l)=Ao n++jJ l:=by
 show (n::l).flatMap _=_
 rw [List.flatMap_cons,ala h];rfl
theorem ZN: ∀ {l:List Int},(∀ n∈l,JY n)->(jJ l).length=4*l.length
 | [],_=>rfl
 | n::l,h=>by
  rw [GV (h n iQ),List.length_append,ZN (λm hm=>h m (by simp [hm])),show (Ao n).length=4 from rfl,List.length_cons];omega
theorem Tq: ∀ {l:List Int} {j:Nat},(∀ n∈l,JY n)->(jJ l).drop (4*j)=jJ (l.drop j)
 | l,0,_=>rfl
 | [],j+1,_=>by simp [jJ]
 | n::l,j+1,h=>by
  rw [GV (h n iQ),List.drop_succ_cons,<-Tq (j:=j) (λm hm=>h m (by simp [hm])),show 4*(j+1)=(Ao n).length+4*j by show _=4+_;omega,<-List.drop_drop,List.drop_left]
theorem VY {l:List Int} {j:Nat} {n:Int} (h: ∀ n∈l,JY n) (hj:l[j]? =some n):tk (jJ l) j=(n,0):=by
 unfold tk;obtain ⟨hl,hn⟩:=List.getElem?_eq_some_iff.1 hj;rw [Tq h,List.drop_eq_getElem_cons hl,hn,GV (h n (by rw [<-hn];exact List.getElem_mem hl))];exact agN (h n (by rw [<-hn];exact List.getElem_mem hl)) _
theorem arD {e:Ev} (h:aX e=0):JY e.kind/\JY e.producer/\JY e.id/\JY e.body/\JY e.aG/\JY e.hno:=by
 unfold aX at h;unfold JY
 repeat' split at h
 all_goals first
  | exact absurd h dQ
  | (clear h;simp only [jP,Bool.and_eq_true,decide_eq_true_eq,not_and,Classical.not_not] at*;omega)
theorem alb {r:dD} (h:aJ r=0): ∀ n∈gG r,JY n:=by
 unfold aJ at h
 split at h
 ·cases h
 split at h
 ·cases h
 rename_i h1 h2
 simp only [jP,Bool.and_eq_true,decide_eq_true_eq,Bool.not_eq_false] at h1 h2;intro n hn;unfold gG at hn;by_cases he:kC r.kind=true
 ·rw [if_pos he] at h hn;obtain ⟨g1,g2,g3,g4,g5,g6⟩:=arD h;simp only [List.cons_append,List.nil_append,List.mem_cons,List.not_mem_nil,or_false] at hn
  rcases hn with rfl | rfl | rfl | rfl | rfl | rfl | rfl | rfl | rfl | rfl
  any_goals assumption
  all_goals (unfold JY;omega)
 rw [if_neg he] at hn;simp only [List.append_nil,List.mem_cons,List.not_mem_nil,or_false] at hn
 rcases hn with rfl | rfl | rfl | rfl
 all_goals (unfold JY;omega)
theorem agO {r:dD} (h:aJ r=0) (he: ¬ kC r.kind=true):r.ev=aO:=by
 unfold aJ at h
 split at h
 ·cases h
 split at h
 ·cases h
 try rw [if_neg he] at h
 split at h
 ·assumption
 cases h
theorem alc {r:dD} (h:aJ r=0):tF (jJ (gG r))=(r,0):=by
 have hr:=alb h;have h0:tk (jJ (gG r)) 0=(r.kind,0):=VY hr rfl;have hm:kR (jJ (gG r))=(gG r).length:=by
  unfold kR;rw [h0];by_cases he:kC r.kind=true
  ·rw [if_pos (show kC (r.kind,(0:Int)).1=true from he)];unfold gG;rw [if_pos he];rfl
  rw [if_neg (show ¬ kC (r.kind,(0:Int)).1=true from he)];unfold gG;rw [if_neg he];rfl
 have hz:zT (jJ (gG r)) (gG r).length=0:=u6 λj hj=>by rw [VY hr (List.getElem?_eq_getElem hj)]
 have hto:nS (jJ (gG r)) (gG r).length=r:=by
  have hv: ∀ j n,(gG r)[j]? =some n->iI (jJ (gG r)) (gG r).length j=n:=λj n hj=>by
   unfold iI;rw [if_pos (List.getElem?_eq_some_iff.1 hj).1,VY hr hj]
  have hw: ∀ j,(gG r).length<=j->iI (jJ (gG r)) (gG r).length j=0:=λj hj=>if_neg oQ;unfold nS;rw [hv 0 r.kind rfl,hv 1 r.queue rfl,hv 2 r.epoch rfl,hv 3 r.peer rfl];by_cases he:kC r.kind=true
  ·have hn:gG r=[r.kind,r.queue,r.epoch,r.peer,r.ev.kind,r.ev.producer,r.ev.id,r.ev.body,r.ev.aG,r.ev.hno]:=by unfold gG;rw [if_pos he];rfl
   rw [hv 4 r.ev.kind (by rw [hn];rfl),hv 5 r.ev.producer (by rw [hn];rfl),hv 6 r.ev.id (by rw [hn];rfl),hv 7 r.ev.body (by rw [hn];rfl),hv 8 r.ev.aG (by rw [hn];rfl),hv 9 r.ev.hno (by rw [hn];rfl)]
  have hn:(gG r).length=4:=by unfold gG;rw [if_neg he];rfl
  rw [hw 4 oQ,hw 5 oQ,hw 6 oQ,hw 7 oQ,hw 8 oQ,hw 9 oQ];have:=agO h he;unfold aO at this;rw [<-this]
 unfold tF;rw [hm,if_neg (by rw [hz];simp),hto,if_neg (by rw [ZN hr,h];simp)]
theorem aeX {r:dD} (h:aJ r=0):nJ r=(jJ (gG r),0):=by unfold nJ;rw [if_neg (by simpa using h)]
def l9 (r:dD):List UInt8:=jL (nJ r).1
def bG (rs:List dD):List UInt8:=rs.flatMap l9
theorem lJ (a b:List dD):bG (a++b)=bG a++bG b:=List.flatMap_append
theorem Bj (r:dD):6<=(l9 r).length/\(l9 r).length<=46:=by
 unfold l9;rw [uW];have:=Fb r;omega
theorem OE {p t:List UInt8} (hp:p.length<=65535) {k:Nat} (hk:2<=k):bZ ((jL p).take k++t)=p.length:=by
 obtain ⟨k,rfl⟩: ∃ j,k=j+2:=⟨k-2,by omega⟩;unfold jL headed;simp only [List.cons_append,List.take_succ_cons,bZ,UInt8.toNat_ofNat'];omega
theorem Vf {r:dD} (h:aJ r=0) (t:List UInt8):firstM (l9 r++t)=(r,(l9 r).length):=by
 have hl:=Fb r;have hfl:(l9 r).length=(nJ r).1.length+6:=uW _;have hpay:bZ (l9 r++t)=(nJ r).1.length:=by
  have:=OE (p:=(nJ r).1) (t:=t) oQ (k:=(l9 r).length) oQ;rwa [show List.take (l9 r).length (jL (nJ r).1)=l9 r from List.take_length] at this
 have hlen:(l9 r++t).length=(nJ r).1.length+6+t.length:=by rw [List.length_append,hfl]
 have hpl:((l9 r++t).drop 2).take (bZ (l9 r++t))=(nJ r).1:=by
  rw [hpay];unfold l9 jL headed;simp
 have hd:tF (nJ r).1=(r,0):=by rw [aeX h];exact alc h
 rw [Rk oQ (by rw [hpay];omega) (by rw [hpl,hd]) (by rw [hpl,hpay,<-hfl,List.take_left];rfl),hpl,hd,hpay,hfl]
theorem Yp {r:dD} {k:Nat} (hk:k< (l9 r).length):(firstM ((l9 r).take k)).2=0:=by
 have hl:=Fb r;have hfl:(l9 r).length=(nJ r).1.length+6:=uW _;have h2:((l9 r).take k).length=k:=by rw [List.length_take];omega
 by_cases hs:k<2
 ·rw [zU oQ];rfl
 have hpay:=OE (p:=(nJ r).1) (t:=[]) oQ (k:=k) oQ;rw [List.append_nil] at hpay;have awG:bZ ((l9 r).take k)=(nJ r).1.length:=hpay;rw [LA oQ (by rw [h2,awG];omega)];rfl
theorem zq: ∀ {rs:List dD} {t:List UInt8},(∀ r∈rs,aJ r=0)->(firstM t).2=0->bO (bG rs++t)=(rs,(bG rs).length)
 | [],t,_,ht=>Io (by simpa [bG] using ht)
 | r::rs,t,h,ht=>by
  have e:bG (r::rs)++t=l9 r++(bG rs++t):=by simp [bG,List.flatMap_cons]
  have hf:=Vf (h r iQ) (bG rs++t);have hlen:=Bj r;rw [e,Oz (by rw [hf];show ¬ (l9 r).length=0;omega),hf];simp only [List.drop_left];rw [zq (λx hx=>h x (by simp [hx])) ht];simp [bG,List.flatMap_cons]
theorem yw:(firstM []).2=0:=by rw [zU iQ];rfl
theorem OG: ∀ (rs:List dD) (k:Nat),k<=(bG rs).length-> ∃ j t,(bG rs).take k=bG (rs.take j)++t/\(firstM t).2=0/\j<=rs.length
 | [],k,_=>⟨0,[],by simp [bG],yw,Nat.le_refl _⟩
 | r::rs,k,hk=>by
  have e:bG (r::rs)=l9 r++bG rs:=by simp [bG,List.flatMap_cons]
  by_cases h:k< (l9 r).length
  ·refine ⟨0,(l9 r).take k,?_,Yp h,Nat.zero_le _⟩;rw [e,List.take_append_of_le_length oQ];simp [bG]
  rw [e,List.length_append] at hk;obtain ⟨j,t,h1,h2,h3⟩:=OG rs (k-(l9 r).length) oQ;refine ⟨j+1,t,?_,h2,by simp;omega⟩;rw [e,List.take_append,List.take_of_length_le oQ,h1];simp [bG,List.flatMap_cons]
theorem agP {l:List UInt8} {s:Int} {r:dD} (h:aJ r=0) (h0:0<=s) (h1:s<=l.length) (hl:l.length+46<=100000):iT l s r=(l++l9 r,s,0):=by
 unfold iT;have:=Bj r;rw [if_neg (by simp [cB];omega),if_neg (by rw [aeX h];simp),if_neg (by show ¬ _<_+(l9 r).length;omega)];rfl
theorem OH {l:List UInt8} {s:Int} {r:dD} (h:(iT l s r).2.2=0):iT l s r=(l++l9 r,s,0)/\aJ r=0/\l.length+(l9 r).length<=100000:=by
 unfold iT at h⊢
 split at h
 ·cases h
 split at h
 ·rename_i h2;exact absurd h h2
 split at h
 ·cases h
 rename_i h1 h2 h3
 rw [if_neg h1,if_neg h2,if_neg h3];refine ⟨rfl,?_,by show _+(jL (nJ r).1).length<=_;omega⟩;unfold nJ at h2
 split at h2
 ·exact Classical.not_not.1 h2
 rename_i h4;exact Classical.not_not.1 h4
theorem Qj {t z:Int} {f:Nat->Bool}: ∀ {k:Nat},z∈jm t f k-> ∃ j,j<k/\f j=true/\z=t-8+j
 | 0,h=>by simp [jm] at h
 | k+1,h=>by
  unfold jm at h
  split at h
  ·rename_i hf
   rcases List.mem_append.1 h with h | h
   ·obtain ⟨j,h1,h2⟩:=Qj h;exact ⟨j,by omega,h2⟩
   rw [List.mem_singleton] at h;exact ⟨k,by omega,hf,h⟩
  obtain ⟨j,h1,h2⟩:=Qj h;exact ⟨j,by omega,h2⟩
theorem Tt {t:Int} {bs:List Bool} {i:Nat} (hi:i<8):(adT t bs).at i=bs.getD i false:=by
 have h:i=0\/i=1\/i=2\/i=3\/i=4\/i=5\/i=6\/i=7:=oQ
 rcases h with rfl | rfl | rfl | rfl | rfl | rfl | rfl | rfl<;>rfl
theorem arE {x:kK} {id:Int} (h:(jW x id).2=0):dJ (xX x id)=0:=by
 obtain ⟨h1,h2,h3⟩:=BZ h;have h0:=sG h1;have aBh:=QC h1;have hx:FP x.top x.at=true:=by
  unfold dJ at h1
  split at h1
  ·rename_i hh
   simp only [Bool.and_eq_true] at hh;exact hh.1.2
  cases h1
 have ht:(xX x id).top=max x.top (id+1):=rfl;have hat: ∀ i,i<8->(xX x id).at i=decide (max x.top (id+1)-8+i∈jm x.top x.at 8++[id]):=λi hi=>by
  unfold xX;rw [Tt hi,KY _ _ _ hi]
 unfold dJ;refine if_pos ?_;have hw:FP (xX x id).top (xX x id).at=true:=rA.2 λk hk hb=>by
  rw [hat k hk,decide_eq_true_eq] at hb;rw [ht]
  rcases List.mem_append.1 hb with hb | hb
  ·obtain ⟨j,j1,j2,j3⟩:=Qj hb;have:=rA.1 hx j j1 j2;omega
  rw [List.mem_singleton] at hb;omega
 have h7:(xX x id).b7=true:=by
  show (xX x id).at 7=true
  rw [hat 7 oQ,decide_eq_true_eq];by_cases c:x.top<=id
  ·rw [show max x.top (id+1)=id+1 by omega];exact List.mem_append_right _ (by rw [List.mem_singleton];omega)
  rw [show max x.top (id+1)=x.top by omega];refine List.mem_append_left _ ?_
  rcases aBh with ⟨h4,_⟩ | ⟨_,h5,h6⟩
  ·omega
  have:=List.getLast_mem h5;rw [List.getLastD_eq_getLast?,List.getLast?_eq_some_getLast h5,Option.getD_some] at h6;rw [h6] at this;rwa [show x.top-8+((7:Nat):Int)=x.top-1 by omega]
 rw [hw,h7,ht];simp only [Bool.and_true,Bool.or_true,Bool.and_eq_true,decide_eq_true_eq];omega
theorem ald {x:kK} {id:Int} (h:(iD x id).2.2=0) (h1:(iD x id).2.1=true):dJ (iD x id).1=0:=by
 unfold iD at h h1⊢;by_cases c1:(jW x id).2≠0
 ·rw [if_pos c1] at h;exact absurd h c1
 rw [if_neg c1] at h h1⊢;by_cases c2:(jW x id).1=true
 ·rw [if_pos c2] at h1;cases h1
 rw [if_neg c2];exact arE (Classical.not_not.1 c1)
section
variable {ep nx gv p:Int} {rs:List eH} {ls:List Ls} {W:jO}
theorem EC: ∀ {rs:List eH} {p:Int},jU nx p rs=true↔(∀ x∈rs,rC nx x=true/\p<x.no)/\rs.Pairwise λa b=>a.no<b.no
 | [],p=>by simp [jU]
 | m::r,p=>by
  simp only [jU,Bool.and_eq_true,decide_eq_true_eq,EC (rs:=r),List.pairwise_cons,List.mem_cons,forall_eq_or_imp]
  constructor
  ·rintro ⟨⟨h1,h2⟩,h3,h4⟩;exact ⟨⟨⟨h1,h2⟩,λx hx=>⟨(h3 x hx).1,Int.lt_trans h2 (h3 x hx).2⟩⟩,λx hx=>(h3 x hx).2,h4⟩
  rintro ⟨⟨⟨h1,h2⟩,h3⟩,h4,h5⟩;exact ⟨⟨h1,h2⟩,λx hx=>⟨(h3 x hx).1,h4 x hx⟩,h5⟩
theorem JZ: ∀ {ls:List Ls} {p:Int},lI ep nx gv p ls=true↔(∀ x∈ls,rC nx x.msg=true/\x.eF=ep/\p<x.hno/\x.hno<gv)/\ls.Pairwise λa b=>a.hno<b.hno
 | [],p=>by simp [lI]
 | m::r,p=>by
  simp only [lI,Md,Bool.and_eq_true,decide_eq_true_eq,JZ (ls:=r),List.pairwise_cons,List.mem_cons,forall_eq_or_imp]
  constructor
  ·rintro ⟨⟨h1,h2,h2',aot⟩,h3,h4⟩;exact ⟨⟨⟨h1,h2,h2',aot⟩,λx hx=>⟨(h3 x hx).1,(h3 x hx).2.1,Int.lt_trans h2' (h3 x hx).2.2.1,(h3 x hx).2.2.2⟩⟩,λx hx=>(h3 x hx).2.2.1,h4⟩
  rintro ⟨⟨⟨h1,h2,h2',aot⟩,h3⟩,h4,h5⟩;exact ⟨⟨h1,h2,h2',aot⟩,λx hx=>⟨(h3 x hx).1,(h3 x hx).2.1,h4 x hx,(h3 x hx).2.2.2⟩,h5⟩
theorem Tv {nx':Int} {m:eH} (h:rC nx m=true) (hn:nx<=nx'):rC nx' m=true:=by
 have:=xH h;exact decide_eq_true oQ
theorem Rl (h:RY ep nx gv rs ls) (h1:Ap W) (h2:jU nx (-1) rs=true) (h3:lI ep nx gv (-1) ls=true) (h4:(nP rs ls).Nodup):fT ep nx gv rs ls W=0:=by
 unfold fT;rw [if_neg (λe=>e h),if_neg (λe=>e h1),if_pos ⟨h2,h3,h4⟩]
theorem agQ {k:Nat} {y:kK} (h:Ap W) (hy:dJ y=0) (hk:k<4):Ap (W.put k y):=λj hj=>by
 have h0:=h 0 oQ;have h1:=h 1 oQ;have h2:=h 2 oQ;have h3:=h 3 oQ;have hk':k=0\/k=1\/k=2\/k=3:=oQ;have hj':j=0\/j=1\/j=2\/j=3:=oQ
 rcases hk' with rfl | rfl | rfl | rfl<;>rcases hj' with rfl | rfl | rfl | rfl<;>first | exact hy | exact h0 | exact h1 | exact h2 | exact h3
theorem Kt {m:eH}: ∀ {l:List eH},(jM m l).Perm (m::l)
 | []=> .refl _
 | x::l=>by
  unfold jM
  split
  ·exact .refl _
  exact ((Kt (l:=l)).cons x).trans (.swap m x l)
theorem ZO {m:eH}: ∀ {l:List eH},rD l->rD (jM m l)
 | [],_=>List.pairwise_singleton _ _
 | x::l,h=>by
  obtain ⟨h1,h2⟩:=List.pairwise_cons.1 h;unfold jM
  split
  ·rename_i hm
   refine List.pairwise_cons.2 ⟨λy hy=>?_,h⟩
   rcases List.mem_cons.1 hy with rfl | hy
   ·omega
   have:=h1 y hy;omega
  rename_i hm
  refine List.pairwise_cons.2 ⟨λy hy=>?_,ZO h2⟩
  rcases List.mem_cons.1 (Kt.mem_iff.1 hy) with rfl | hy
  ·omega
  exact h1 y hy
theorem OI: ∀ (ls:List Ls) (rs:List eH),(ls.foldl (λl x=>jM x.msg l) rs).Perm (rs++ls.map (·.msg))
 | [],rs=>by simp
 | x::ls,rs=>by
  refine (OI ls (jM x.msg rs)).trans ?_;refine (Kt.append_right _).trans ?_;rw [List.map_cons];exact (List.perm_middle).symm
theorem Tw: ∀ (ls:List Ls) (rs:List eH),rD rs->rD (ls.foldl (λl x=>jM x.msg l) rs)
 | [],rs,h=>h
 | x::ls,rs,h=>Tw ls _ (ZO h)
theorem Yq {l:List eH} (h:rD l) (hn:(l.map (·.no)).Nodup):l.Pairwise λa b=>a.no<b.no:=by
 have h2:l.Pairwise λa b=>a.no≠b.no:=List.pairwise_map.1 hn;exact (h.and h2).imp λh=>by omega
end
theorem agR {Q:Qd} {e:Ev} (h:Q.fault=0) (he:aX e=0):(stepM Q e).1.fault=0:=by
 obtain ⟨hr,hw,h2,h3,h4⟩:=I8 h;have hp:=Zw he;obtain ⟨ep,nx,gv,rs,ls,W⟩:=Q;dsimp only at hr hw h2 h3 h4;obtain ⟨r1,r2,r3,r4,r5,r6,r7⟩:=hr;obtain ⟨a1,a2⟩:=EC.1 h2;obtain ⟨b1,b2⟩:=JZ.1 h3;unfold stepM
 split
 ·unfold AL
  split
  ·exact h
  split
  ·exact h
  split
  ·exact h
  rename_i k1 k2 k3 k4
  dsimp only at k2 k3 k4⊢;have hlt: ∀ z∈nP rs ls,z<nx:=λz hz=>by
   unfold nP at hz
   rcases List.mem_append.1 hz with hz | hz
   ·obtain ⟨x,hx,rfl⟩:=List.mem_map.1 hz;exact (xH (a1 x hx).1).2.1
   obtain ⟨x,hx,rfl⟩:=List.mem_map.1 hz;exact (xH (b1 x hx).1).2.1
  have hbd:0<=e.body/\e.body<=1000000:=by
   unfold aX at he
   repeat' split at he
   all_goals first
    | (cases he;done)
    | (simp only [jP,Bool.and_eq_true,decide_eq_true_eq,not_and,Classical.not_not] at*;omega)
  show fT ep (nx+1) gv (rs++[⟨nx,e.body⟩]) ls (W.put e.producer.toNat (iD (W.at e.producer.toNat) e.id).1)=0
  refine Rl ⟨r1,r2,by omega,by omega,r5,r6,by rw [List.length_append,List.length_singleton];omega⟩ (agQ hw (ald (Classical.not_not.1 k2) (by simpa using k3)) oQ) (EC.2 ⟨λx hx=>?_,?_⟩) (JZ.2 ⟨λx hx=>⟨Tv (b1 x hx).1 oQ,(b1 x hx).2⟩,b2⟩) ?_
  ·rcases List.mem_append.1 hx with hx | hx
   ·exact ⟨Tv (a1 x hx).1 oQ,(a1 x hx).2⟩
   rw [List.mem_singleton] at hx;subst hx;exact ⟨decide_eq_true uQ,by dsimp only;omega⟩
  ·refine List.pairwise_append.2 ⟨a2,List.pairwise_singleton _ _,λx hx y hy=>?_⟩;rw [List.mem_singleton] at hy;subst hy;exact hlt _ (List.mem_append_left _ (List.mem_map_of_mem hx))
  have:(nP (rs++[⟨nx,e.body⟩]) ls).Perm (nx::nP rs ls):=by
   unfold nP;rw [List.map_append,List.append_assoc];exact List.perm_middle
  exact this.nodup_iff.2 (List.nodup_cons.2 ⟨λhm=>by have:=hlt _ hm;omega,h4⟩)
 split
 ·unfold EW;dsimp only
  split
  ·exact h
  rename_i m rest
  split
  ·exact h
  rename_i k1
  obtain ⟨a3,a4⟩:=List.pairwise_cons.1 a2;have hm:=a1 m iQ
  show fT ep nx (gv+1) rest (ls++[⟨ep,gv,m⟩]) W=0
  refine Rl ⟨r1,r2,r3,r4,by omega,by omega,by rw [List.length_append,List.length_singleton];rw [List.length_cons] at r7;omega⟩ hw (EC.2 ⟨λx hx=>a1 x (by simp [hx]),a4⟩) (JZ.2 ⟨λx hx=>?_,?_⟩) ?_
  ·rcases List.mem_append.1 hx with hx | hx
   ·have:=b1 x hx;exact ⟨this.1,this.2.1,this.2.2.1,by omega⟩
   rw [List.mem_singleton] at hx;subst hx;exact ⟨hm.1,rfl,by dsimp only;omega,by dsimp only;omega⟩
  ·refine List.pairwise_append.2 ⟨b2,List.pairwise_singleton _ _,λx hx y hy=>?_⟩;rw [List.mem_singleton] at hy;subst hy;exact (b1 x hx).2.2.2
  refine (List.Perm.nodup_iff ?_).1 h4;unfold nP;rw [List.map_cons,List.map_append,List.cons_append,<-List.append_assoc];exact (List.perm_append_comm (l₁:=[m.no]) (l₂:=rest.map (·.no)++ls.map (·.msg.no)))
 split
 ·unfold Dn;dsimp only
  split
  ·exact h
  split
  ·exact h
  have hsub:(ls.filter λx=>decide (x.hno≠e.hno)).Sublist ls:=List.filter_sublist
  show fT ep nx gv rs (ls.filter λx=>decide (x.hno≠e.hno)) W=0
  refine Rl ⟨r1,r2,r3,r4,r5,r6,by have:=hsub.length_le;omega⟩ hw h2 (JZ.2 ⟨λx hx=>b1 x (hsub.subset hx),b2.sublist hsub⟩) ?_;unfold nP at h4⊢;exact h4.sublist ((List.Sublist.refl _).append (hsub.map _))
 unfold Dp;dsimp only
 split
 ·exact h
 have hP:=OI ls rs;have hlen:=hP.length_eq;rw [List.length_append,List.length_map] at hlen;have hnn:((ls.foldl (λl x=>jM x.msg l) rs).map (·.no)).Nodup:=by
  refine ((hP.map (·.no)).nodup_iff).2 ?_;unfold nP at h4;rw [List.map_append,List.map_map];exact h4
 show fT (ep+1) nx 0 (ls.foldl (λl x=>jM x.msg l) rs) [] W=0
 refine Rl ⟨by omega,by omega,r3,r4,by omega,by omega,by rw [List.length_nil];omega⟩ hw (EC.2 ⟨λx hx=>?_,Yq (Tw ls rs (a2.imp λh=>Int.le_of_lt h)) hnn⟩) rfl ?_
 ·rcases List.mem_append.1 (hP.mem_iff.1 hx) with hx | hx
  ·exact a1 x hx
  obtain ⟨y,hy,rfl⟩:=List.mem_map.1 hx;have:=(b1 y hy).1;exact ⟨this,by have:=xH this;omega⟩
 unfold nP;rw [List.map_nil,List.append_nil];exact hnn
theorem arF {Q:Qd} {e:Ev} (h:(iw Q e).2.2.2=0):(iw Q e).1.fault=0:=by
 by_cases c1:Q.fault=0
 ·by_cases c2:aX e=0
  ·rw [zM c1 c2];exact agR c1 c2
  rw [QS c1 c2] at h;exact absurd h c2
 rw [MI c1] at h;exact absurd h c1
theorem ab0:bS.fault=0:=by
 refine Rl ⟨by decide,by decide,by decide,by decide,by decide,by decide,by decide⟩ (λj hj=>?_) rfl rfl List.nodup_nil;have hj':j=0\/j=1\/j=2\/j=3:=oQ
 rcases hj' with rfl | rfl | rfl | rfl<;>decide
end Go.Proofs.YtlfgjcahpppbbaaGreatDoor
