import Derived.Test.YtlfgjcahpppbbaaGreatDoorGc45fa
import Derived.Test.YtlfgjcahpppbbaaGreatDoorGe8e34
set_option maxRecDepth 100000
set_option maxHeartbeats 8000000
set_option linter.unusedSimpArgs false
set_option linter.unusedVariables false
namespace Go.Proofs.YtlfgjcahpppbbaaGreatDoor
open ChangeShapes WideShapes RowKit
def jJ (l:List Int):List UInt8:=l.flatMap λn=>(qO n).1
theorem Ig (n:Int):(qO n).1.length<=4:=by
 unfold qO
 split<;>simp [Ao]
theorem Fa (l:List Int):(jJ l).length<=4*l.length:=by
 induction l with
 | nil=>simp [jJ]
 | cons n l ih=>
  have:=Ig n;simp only [jJ,List.flatMap_cons,List.length_append,List.length_cons] at*;omega
theorem Ih (l k:List Int):jJ (l++k)=jJ l++jJ k:=by simp [jJ]
theorem abt {l:List Int} {k:Nat} {x:Int} (h:l[k]? =some x):jJ (l.take (k+1))=jJ (l.take k)++(qO x).1:=by
 have e:l.take (k+1)=l.take k++[x]:=by rw [List.take_add_one,h];rfl
 rw [e,Ih];simp [jJ]
theorem Ot (A:Option Addr) (n c:Nat) (l:List Int) (w:World) (h:Rd w w.heap.size 1 A n (intCells l)) (hn:n<=1000):
  Calls Tryz.prog 144 #[.slice A n c] w (jq w 5 1 (jJ l).length (byteCells (jJ l))):=by
 obtain ⟨j0,hj0,SC,SE,SF⟩:=info_parts Et;have H:=Lib.hid h;have HL:=Lib.hid h.ajK;clear h
 go_enter Tryz.func144,Tryz.ntmps144
 go_wp2_with fail
 go_loopw [3,10] (λv i wr=> ∃ k:Nat,k<=n/\i= .int .i64 k/\Below w.heap.size w wr/\ ∃ A2 c2,v= .slice A2 (jJ (l.take k)).length c2/\wr.ownsRow w.heap.size 5 1 (.slice A2 (jJ (l.take k)).length c2) (jJ (l.take k)).length (byteCells (jJ (l.take k)))) (λ_ i _=>n-(intOf i).toNat)
 case atStart=>exact ⟨0,Nat.zero_le _,rfl,Below.refl _ _,none,0,rfl,jg _ _ _ _⟩
 case round=>
  obtain ⟨k,hk,rfl,hB,A2,c2,rfl,hown⟩:=hrel;have HB:=Lib.hid hB;have HO:=Lib.hid hown;have hle:=Fa (l.take k);have hlk:(l.take k).length<=k:=List.length_take_le _ _;by_cases hlt:k<n
  ·obtain ⟨b,off,x,rfl,hb,he,c0⟩:=(H.out.below hB (Nat.le_refl _)).apy hlt;have HP:=Lib.hid (abt he);have hl4:=Ig x;have HN:=Lib.hid (QJ x);clear hB hown he;generalize jJ (l.take k)=lk at HO HP hle;generalize qO x=r at HP HN hl4
   go_wp2_with fail
   refine (HN.out _).mono ?_;rintro e w2 ⟨A3,c3,rfl,hb2,hr2⟩;have HB2:=Lib.hid (HB.out.trans (hb2.mono HB.out.size));have HO2:Hid (w2.ownsRow w.heap.size 5 1 (.slice A2 lk.length c2) lk.length (byteCells lk)):=Lib.hid (NI HO.out hb2);have HR2:=Lib.hid hr2;clear hb2 hr2
   go_wp2_with (at_builtin;refine jB _ rfl (.tmp 19) (.tmp 20) _ rfl w.heap.size 5 j0 _ 1 1 Tryz.underlying107 hj0 SC SE SF rfl oQ _ lk.length (byteCells lk) rfl HO2.out w2.heap.size A3 r.1.length c3 (byteCells r.1) rfl HR2.out (byteCells_one _) lQ oQ HB2.out.size ?_;intro v1 w3 hown1 hg1 Ma)
   have HB3:=Lib.hid (HB2.out.grown hg1 HB2.out.size (HO2.out.Al ·));obtain ⟨A4,c4,rfl,_⟩:=mJ hown1;rw [<-byteCells_append] at hown1;have HO3:=Lib.hid hown1;clear hown1 hg1 Ma
   go_wp2_with fail
   go_roundw
   case rel=>exact ⟨k+1,by omega,by go_num,HB3.out,A4,c4,by rw [HP.out,List.length_append],by rw [HP.out,List.length_append];exact HO3.out⟩
   case measure=>simp [intOf];omega
  obtain rfl:k=n:=oQ;rw [List.take_of_length_le (by have:=HL.out;omega)] at HO hown hle⊢;clear hB hown
  go_wp2_with fail
  go_ret
  exact ⟨A2,c2,rfl,HB.out,HO.out⟩
def gG (r:dD):List Int:=[r.kind,r.queue,r.epoch,r.peer]++if kC r.kind=true then [r.ev.kind,r.ev.producer,r.ev.id,r.ev.body,r.ev.aG,r.ev.hno] else []
def nJ (r:dD):List UInt8×Int:=if aJ r≠0 then ([],aJ r) else (jJ (gG r),0)
theorem abu (w:World) (a b c d:Int) (t:TypeId):Rd (w.alloc (.cells #[.int .i64 a,.int .i64 b,.int .i64 c,.int .i64 d] t)) (w.heap.size+1) 1 (some ⟨w.heap.size,0,none⟩) 4 (intCells [a,b,c,d]):=
 Rd.ahS w t (intCells [a,b,c,d]) 4 1 rfl
theorem agw (w:World) (a b c d e f:Int) (t:TypeId):Rd (w.alloc (.cells #[.int .i64 a,.int .i64 b,.int .i64 c,.int .i64 d,.int .i64 e,.int .i64 f] t)) (w.heap.size+1) 1 (some ⟨w.heap.size,0,none⟩) 6 (intCells [a,b,c,d,e,f]):=
 Rd.ahS w t (intCells [a,b,c,d,e,f]) 6 1 rfl
theorem Q7 (r:dD) (w:World):Calls Tryz.prog 114 #[r.val] w (nI w (nJ r)):=by
 obtain ⟨j0,hj0,SC,SE,SF⟩:=info_parts Et;have HC:=Lib.hid (λw=>jH r w);have HR:Hid (nJ r=if aJ r≠0 then ([],aJ r) else (jJ ([r.kind,r.queue,r.epoch,r.peer]++if kC r.kind=true then [r.ev.kind,r.ev.producer,r.ev.id,r.ev.body,r.ev.aG,r.ev.hno] else []),0)):=Lib.hid rfl;generalize nJ r=z at HR⊢;generalize aJ r=f at HC HR;obtain ⟨k,q,ep,pe,x0,x1,x2,x3,x4,x5⟩:=r;unfold dD.val at HC⊢;simp only at HC HR⊢
 go_enter Tryz.func114,Tryz.ntmps114
 go_wp2_with fail
 refine (HC.out _).mono ?_;rintro e w1 ⟨rfl,hb1⟩;have B0:=(fV.new w _ _).below hb1 iQ;obtain ⟨c0,c1,c2,c3,c4,c5,c6,c7,c8,c9,cf⟩:=B0.kF;have hz1:w.heap.size<w1.heap.size:=B0.lt;have HB:Hid (Below w.heap.size w w1):=Lib.hid (Below.trans gQ (hb1.mono iQ));clear hb1;by_cases hf:f=0
 ·have HR2:=Lib.hid (HR.out.trans (if_neg (by simpa using hf)));subst hf;clear HR HC
  go_wp2_with fail
  refine (Ot _ 4 4 [k,q,ep,pe] _ (by have:=abu w1 k q ep pe 3;simpa using this) oQ).mono ?_;rintro e w2 ⟨A1,d1,rfl,hb2,hown⟩;have C0:=(B0.alloc _).on hb2;have HB2:=Lib.hid ((HB.out.alloc oQ _).trans (hb2.mono jQ));have HO:Hid (w2.ownsRow (w1.heap.size+1) 5 1 (.slice A1 (jJ [k,q,ep,pe]).length d1) (jJ [k,q,ep,pe]).length (byteCells (jJ [k,q,ep,pe]))):=Lib.hid (by simpa using hown);have hz2:w1.heap.size+1<=w2.heap.size:=by have:=hb2.size;simpa using this
  have aJq:w.heap.size<w2.heap.size:=oQ;have hl1:=Fa [k,q,ep,pe];clear hb2 hown c0 c1 c2 c3 c4 c5 c6 c7 c8 c9 cf B0 HB;obtain ⟨c0,c1,c2,c3,c4,c5,c6,c7,c8,c9,cf⟩:=C0.kF
  cases he:kC k
  ·have e:=HR2.out;rw [if_neg (by rw [he];simp),List.append_nil] at e;subst e;clear HR2
   go_wp2_with (go_at_call 98;refine (fO _ _).mono ?_;rintro e w' ⟨rfl,rfl⟩;rw [he])
   go_ret2
   exact ⟨A1,d1,rfl,HB2.out,Rd.tO HO.out⟩
  have e:=HR2.out;rw [if_pos he,Ih] at e;subst e;clear HR2;have hl2:=Fa [x0,x1,x2,x3,x4,x5];have HP:=Lib.hid (λA c w h=>Ot A 6 c [x0,x1,x2,x3,x4,x5] w h oQ);simp only [List.length_cons,List.length_nil] at hl1 hl2
  go_wp2_with (go_at_call 98;refine (fO _ _).mono ?_;rintro e w' ⟨rfl,rfl⟩;rw [he])
  refine (HP.out _ _ _ (by have:=agw (w2.alloc (.cells #[.int .i64 x0,.int .i64 x1,.int .i64 x2,.int .i64 x3,.int .i64 x4,.int .i64 x5] 65)) x0 x1 x2 x3 x4 x5 3;simpa using this)).mono ?_;rintro e w3 ⟨A2,d2,rfl,hb3,hown2⟩;have HB3:=Lib.hid (((HB2.out.alloc oQ _).alloc jQ _).trans (hb3.mono jQ));have HO2:=Lib.hid (NI ((HO.out.alloc _).alloc _) hb3);have HR3:=Lib.hid (Rd.tO hown2);have hz3:w2.heap.size<=w3.heap.size:=by have:=hb3.size;simp at this;omega
  clear hb3 hown2 HO HB2
  go_wp2_with (at_builtin;refine jB _ rfl (.tmp 27) (.tmp 43) _ rfl (w1.heap.size+1) 5 j0 _ 1 1 Tryz.underlying107 hj0 SC SE SF rfl oQ _ (jJ [k,q,ep,pe]).length (byteCells (jJ [k,q,ep,pe])) rfl HO2.out w3.heap.size A2 (jJ [x0,x1,x2,x3,x4,x5]).length d2 (byteCells (jJ [x0,x1,x2,x3,x4,x5])) rfl HR3.out (byteCells_one _) lQ oQ oQ ?_;intro v1 w4 hown1 hg1 Ma;obtain ⟨A4,d4,rfl,_⟩:=mJ hown1;rw [<-byteCells_append] at hown1)
  have HB4:=Lib.hid (HB3.out.grown hg1 HB3.out.size (λk hk=>by have:=HO2.out.Al k hk;omega))
  go_ret2
  exact ⟨A4,d4,by simp,HB4.out,by have:=Rd.tO hown1;simpa using this⟩
 have e:=HR.out.trans (if_pos hf);subst e;have t0:(f==0)=false:=by simpa using hf
 have t0':(f != 0)=true:=by simpa using hf
 clear hf
 go_wp2_with fail
 go_ret2
 exact ⟨none,0,rfl,HB.out,Rd.none_⟩
def iT (l:List UInt8) (s:Int) (r:dD):List UInt8×Int×Int:=
 if cB l s=false then ([],0,6) else if (nJ r).2≠0 then ([],0,(nJ r).2) else if 100000<l.length+(jL (nJ r).1).length then ([],0,14) else (l++jL (nJ r).1,s,0)
theorem Fb (r:dD):(nJ r).1.length<=40:=by
 unfold nJ
 split
 ·simp
 have:=Fa (gG r);have h:(gG r).length<=10:=by unfold gG;split<;>simp
 simp only;omega
theorem Fe:(Tryz.prog.info? 109).map (·.size)=some 2:=kQ
theorem Ii (A:Option Addr) (n c:Nat) (l:List UInt8) (s:Int) (r:dD) (w:World) (h:Rd w w.heap.size 1 A n (byteCells l)):
  Calls Tryz.prog 85 #[.agg #[.slice A n c,.int .i64 s],r.val] w (rV w (iT l s r)):=by
 obtain ⟨j0,hj0,SC,SE,SF⟩:=info_parts Et;have HO0:=Lib.hid (λw h=>lM A n c l s w h);have HE0:=Lib.hid (λw=>Q7 r w);have hel:=Fb r;have HR:Hid (iT l s r=if cB l s=false then ([],0,6) else if (nJ r).2≠0 then ([],0,(nJ r).2) else if 100000<l.length+(jL (nJ r).1).length then ([],0,14) else (l++jL (nJ r).1,s,0)):=Lib.hid rfl;have HOM:=Lib.hid (Ba l s);have HM:=Lib.hid (oI (l:=l) (s:=s));have H:=Lib.hid h;have hl:=h.nH;subst hl;clear h;generalize iT l s r=z at HR⊢;generalize nJ r=em at HE0 hel HR;obtain ⟨pl,pe⟩:=em;obtain ⟨k,q,ep,pr,x0,x1,x2,x3,x4,x5⟩:=r;unfold dD.val at HE0⊢;simp only at HE0 HR hel⊢;have HFr:=Lib.hid (λA n c w h hn=>Uz A n c pl w h hn);have hfl:=uW pl;generalize jL pl=fr at HFr hfl HR;have aJr:fr.length<=46:=oQ;clear hfl
 go_enter Tryz.func85,Tryz.ntmps85
 go_wp2_with fail
 refine (HO0.out _ (by exact H.out.on gQ)).mono ?_;rintro e w1 ⟨A1,c1,rfl,hb1,hown⟩;have B1:=((fV.new1 w _ _ _).alloc _).below hb1 (by simp<;>omega);have B2:=(fV.new2 w _ _ _ _).below hb1 iQ;have hz1:w.heap.size+2<w1.heap.size:=B2.lt;have aJs:w.heap.size<w1.heap.size:=oQ;have aJt:w.heap.size+1<w1.heap.size:=oQ;have HB:Hid (Below w.heap.size w w1):=Lib.hid (Below.trans gQ (hb1.mono jQ));clear hb1
 rcases HOM.out with ⟨e1,e2⟩ | ⟨e1,e2⟩
 ·rw [e1] at hown⊢;simp only at hown⊢;have HR2:=Lib.hid (HR.out.trans (if_neg (by rw [e2];simp)));obtain ⟨m1,m2,m3⟩:=HM.out e2;have M1:=Lib.hid m1;have mi:(l.length:Int)<=100000:=oQ;clear m1;have HO:Hid (w1.ownsRow (w.heap.size+1+1+1) 5 1 (.slice A1 l.length c1) l.length (byteCells l)):=Lib.hid (by simpa using hown);have HA1:Hid (∀ k,(Value.slice A1 l.length c1).ownBlock=some k->w.heap.size+1+1<k/\k<w1.heap.size):=Lib.hid (λk hk=>⟨by have:=HO.out.Al k hk;omega,EM HO.out k hk⟩);clear e1 e2 hown HOM HM HR;have B1:=B1.alloc (.cells #[.slice A1 l.length c1,.int .i64 s] 109);have B2:=B2.alloc (.cells #[.slice A1 l.length c1,.int .i64 s] 109);have B3:=fV.new w1 #[.slice A1 l.length c1,.int .i64 s] 109;have HB:=Lib.hid (HB.out.alloc oQ (.cells #[.slice A1 l.length c1,.int .i64 s] 109));have HO:=Lib.hid (HO.out.alloc (.cells #[.slice A1 l.length c1,.int .i64 s] 109));obtain ⟨c0,d1,d2,d3,d4,d5,d6,d7,d8,d9,cf⟩:=B1.kF
  go_wp2_with fail
  have hz2:w.heap.size+2< (w1.alloc (.cells #[.slice A1 l.length c1,.int .i64 s] 109)).heap.size:=by simp;omega
  have hz3:w1.heap.size< (w1.alloc (.cells #[.slice A1 l.length c1,.int .i64 s] 109)).heap.size:=by simp
  clear c0 d1 d2 d3 d4 d5 d6 d7 d8 d9 cf;generalize w1.alloc (.cells #[.slice A1 l.length c1,.int .i64 s] 109)=w2 at B1 B2 B3 HB HO hz2 hz3⊢;refine (HE0.out _).mono ?_;rintro e w3 ⟨A2,c2,rfl,hb3,hr3⟩;simp only at hr3;have B2:=B2.on hb3;have B3:=B3.on hb3;have HO:=Lib.hid (NI HO.out hb3);have HB:=Lib.hid (HB.out.trans (hb3.mono HB.out.size));have hz4:w2.heap.size<=w3.heap.size:=hb3.size;have HR3:=Lib.hid hr3;clear hb3 hr3 HE0 B1;simp only;by_cases he:pe=0
  ·have ah8:=Lib.hid (HR2.out.trans (if_neg (by simpa using he)));subst he;clear HR2
   go_wp2_with fail
   refine (HFr.out A2 pl.length c2 _ HR3.out oQ).mono ?_;rintro e w4 ⟨A3,c3,rfl,hb4,amO⟩;have B2:=B2.on hb4;have B3:=B3.on hb4;have HO:=Lib.hid (NI HO.out hb4);have HB:=Lib.hid (HB.out.trans (hb4.mono HB.out.size));have hz5:w3.heap.size<=w4.heap.size:=hb4.size;have HR4:=Lib.hid (Rd.tO amO);obtain ⟨b0,b1,bf⟩:=B3.vK;clear hb4 amO HR3 HFr;by_cases hbig:100000<l.length+fr.length
   ·have e:=ah8.out.trans (if_pos hbig);subst e;have hd1:(100000:Int)< (l.length:Int)+(fr.length:Int):=oQ;clear ah8 hbig
    go_wp2_with (refine wpList_store_row rfl _ (.tmp 4) (.tmp 37) rfl (w.heap.size+1+1) rfl _ rfl _ _ B2 Fe rfl rfl ?_;intro w9 JR Df)
    have HU:Hid (Below w.heap.size w w9):=Lib.hid (Df.next HB.out oQ);obtain ⟨r0,r1,rf⟩:=JR.vK
    go_wp2_with fail
    refine bodyPost_ret (v:= .tuple #[.agg #[.slice none 0 0,.int .i64 0],.int .i64 14]) (by simp [results,Tryz.results85,go_sem,r0,r1]) rfl ?_;exact ⟨none,0,rfl,HU.out,Rd.none_,λa ha=>by cases ha⟩
   have e:=ah8.out.trans (if_neg hbig);subst e;have hd1:(l.length:Int)+(fr.length:Int)<=100000:=oQ;clear ah8 hbig
   go_wp2_with (first
    | (at_builtin;refine jB _ rfl (.tmp 39) (.tmp 40) _ rfl (w.heap.size+1+1+1) 5 j0 _ 1 1 Tryz.underlying107 hj0 SC SE SF rfl oQ _ l.length (byteCells l) rfl HO.out w4.heap.size A3 fr.length c3 (byteCells fr) rfl HR4.out (byteCells_one _) lQ oQ oQ ?_;intro v1 w5 hown1 hg1 Ma;obtain ⟨A5,c5,rfl,_⟩:=mJ hown1;rw [<-byteCells_append] at hown1;have hne:=EM HO.out;have hlw:=HO.out.Al;have HNE:=Lib.hid (apq Ma (λk=>k≠w1.heap.size/\w.heap.size+1+1<k) (λk hk=>by have:=HA1.out k hk;omega) oQ);have E3:=B3.grown hg1 (λe=>by have:=HA1.out _ e;omega);have E2:=B2.grown hg1 (λe=>by have:=hlw _ e;omega);have HB5:=Lib.hid (HB.out.grown hg1 oQ (λk hk=>by have:=hlw k hk;omega));have HO5:=Lib.hid hown1;clear hown1 hg1 Ma hne hlw b0 b1 bf;obtain ⟨b0,b1,bf⟩:=E3.vK)
    | (refine wpList_store_row rfl _ (.tmp 4) (.tmp 43) rfl (w.heap.size+1+1) rfl _ rfl _ _ ((EN w5 w1.heap.size 0 (.slice A5 (l.length+fr.length) c5)).blk E2 oQ) Fe rfl rfl ?_;intro w9 JR Df))
   have U6:=EN w5 w1.heap.size 0 (.slice A5 (l.length+fr.length) c5);have HU:Hid (Below w.heap.size w w9):=Lib.hid (Df.next (U6.next HB5.out oQ) oQ);have HO9:=Df.own (U6.own HO5.out (λk hk=>(HNE.out k hk).1)) (λk hk=>by have:=HNE.out k hk;omega);obtain ⟨r0,r1,rf⟩:=JR.vK;refine bodyPost_ret (v:= .tuple #[.agg #[.slice A5 (l.length+fr.length) c5,.int .i64 s],.int .i64 0]) (by simp [results,Tryz.results85,go_sem,r0,r1]) rfl ?_;exact ⟨A5,c5,by simp,HU.out,by have:=Rd.tO HO9;simpa using this,λa ha=>by have:=Oh HO9 a ha;omega⟩
  have e:=HR2.out.trans (if_pos he);subst e;have t0:(pe==0)=false:=by simpa using he
  have t0':(pe != 0)=true:=by simpa using he
  clear he HR2
  go_wp2_with (refine wpList_store_row rfl _ (.tmp 4) (.tmp 26) rfl (w.heap.size+1+1) rfl _ rfl _ _ B2 Fe rfl rfl ?_;intro w9 JR Df)
  have HU:Hid (Below w.heap.size w w9):=Lib.hid (Df.next HB.out oQ);obtain ⟨r0,r1,rf⟩:=JR.vK
  go_wp2_with fail
  refine bodyPost_ret (v:= .tuple #[.agg #[.slice none 0 0,.int .i64 0],.int .i64 pe]) (by simp [results,Tryz.results85,go_sem,r0,r1]) rfl ?_;exact ⟨none,0,rfl,HU.out,Rd.none_,λa ha=>by cases ha⟩
 rw [e1] at hown⊢;simp only at hown⊢;have e:=HR.out.trans (if_pos e2);subst e;clear e1 e2 HR HOM HM hown;have B2:=B2.alloc (.cells #[.slice A1 ([]:List UInt8).length c1,.int .i64 0] 109);have HB:=Lib.hid (HB.out.alloc oQ (.cells #[.slice A1 ([]:List UInt8).length c1,.int .i64 0] 109))
 go_wp2_with (refine wpList_store_row rfl _ (.tmp 4) (.tmp 18) rfl (w.heap.size+1+1) rfl _ rfl _ _ B2 Fe rfl rfl ?_;intro w9 JR Df)
 have HU:Hid (Below w.heap.size w w9):=Lib.hid (Df.next HB.out oQ);obtain ⟨r0,r1,rf⟩:=JR.vK
 go_wp2_with fail
 refine bodyPost_ret (v:= .tuple #[.agg #[.slice none 0 0,.int .i64 0],.int .i64 6]) (by simp [results,Tryz.results85,go_sem,r0,r1]) rfl ?_;exact ⟨none,0,rfl,HU.out,Rd.none_,λa ha=>by cases ha⟩
def agx (w:World) (e:Ending) (w':World):Prop:=e= .returned (.agg #[.int .i64 (-1),.int .i64 0,.int .i64 (-1),.int .i64 0,.int .i64 (-1),.int .i64 0,.int .i64 (-1),.int .i64 0])/\Below w.heap.size w w'
def MJ:Nat->Array Value
 | 0=> #[.int .i64 0,.int .i64 0,.int .i64 0,.int .i64 0,.int .i64 0,.int .i64 0,.int .i64 0,.int .i64 0]
 | k+1=>((MJ k).setIfInBounds (k*2) (.int .i64 (-1))).setIfInBounds (k*2+1) (.int .i64 0)
theorem Yg (k:Nat):(MJ k).size=8:=by
 induction k with
 | zero=>rfl
 | succ k ih=>simp [MJ,ih]
theorem Ou (k j:Nat) (hj:j<8): ∃ u,(MJ k)[j]? =some u:=⟨_,Array.getElem?_eq_getElem (by rw [Yg];exact hj)⟩
theorem Yh (w:World) (hn:Nw w):Calls Tryz.prog 37 #[] w (agx w):=by
 have HN:=Lib.hid hn;clear hn
 go_enter Tryz.func37,Tryz.ntmps37
 go_wp2_with fail
 go_loopw [3] (λi wr=> ∃ k:Nat,k<=4/\i= .int .i64 k/\fV wr w.heap.size #[.int .i64 0,.int .i64 0,.int .i64 0,.int .i64 0,.int .i64 0,.int .i64 0,.int .i64 0,.int .i64 0] 30/\fV wr (w.heap.size+1) (MJ k) 30/\Below w.heap.size w wr) (λi _=>4-(intOf i).toNat)
 case atStart=>exact ⟨0,by omega,rfl,(fV.new _ _ _).alloc _,fV.new1 _ _ _ _,by go_grown⟩
 case round=>
  obtain ⟨k,hk,rfl,h0,h1,hb⟩:=hrel;have hsz:w.heap.size<=wr.heap.size:=hb.size;have H0:=Lib.hid h0;have H1:=Lib.hid h1;have HB:=Lib.hid hb;by_cases hlt:k<4
  ·obtain ⟨g0,g1,g2⟩:=HN.out.on hb;obtain ⟨u,hu⟩:=Ou k (k*2) oQ;obtain ⟨u',hu'⟩:=Ou k (k*2+1) oQ;have c0:=h1.cell hu;have c1:=h1.cell hu';have cf:=h1.free;clear h0 h1 hb hu hu'
   go_wp2_with fail
   go_roundw
   case rel=>
    have hB:=HB.out;exact ⟨k+1,by omega,by go_num,(H0.out.other _ iQ _).other _ iQ _,(H1.out.wD _ _).wD _ _,by go_grown⟩
   case measure=>simp [intOf];omega
  obtain rfl:k=4:=oQ;have e4:MJ 4= #[.int .i64 (-1),.int .i64 0,.int .i64 (-1),.int .i64 0,.int .i64 (-1),.int .i64 0,.int .i64 (-1),.int .i64 0]:=rfl;rw [e4] at h1;clear e4;obtain ⟨c0,c1,c2,c3,c4,c5,c6,c7,cf⟩:=h1.CY;obtain ⟨r0,r1,r2,r3,r4,r5,r6,r7,rf⟩:=h0.CY;clear h0 h1 H1
  go_wp2_with fail
  refine bodyPost_ret (v:= .agg #[.int .i64 (-1),.int .i64 0,.int .i64 (-1),.int .i64 0,.int .i64 (-1),.int .i64 0,.int .i64 (-1),.int .i64 0]) (by simp [results,Tryz.results37,go_sem,r0,r1,r2,r3,r4,r5,r6,r7]) rfl ?_;have hB:=HB.out;exact ⟨rfl,by go_grown⟩
end Go.Proofs.YtlfgjcahpppbbaaGreatDoor
