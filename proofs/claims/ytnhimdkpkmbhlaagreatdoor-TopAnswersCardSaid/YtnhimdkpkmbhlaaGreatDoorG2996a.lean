import Derived.Test.YtnhimdkpkmbhlaaGreatDoorG06fc4
import Derived.Test.YtnhimdkpkmbhlaaGreatDoorG9daf5
import Derived.Test.YtnhimdkpkmbhlaaGreatDoorGaee60
import Derived.Test.YtnhimdkpkmbhlaaGreatDoorGcc137
set_option maxRecDepth 100000
set_option maxHeartbeats 8000000
set_option linter.unusedSimpArgs false
set_option linter.unusedVariables false
namespace Go.Proofs.YtnhimdkpkmbhlaaGreatDoor
open ChangeShapes WideShapes RowKit
def jv (l:List Int):List UInt8:=l.flatMap λn=>(p8 n).1
theorem Fu (n:Int):(p8 n).1.length<=4:=by
 unfold p8
 split<;>simp [yg]
theorem CO (l:List Int):(jv l).length<=4*l.length:=by
 induction l with
 | nil=>simp [jv]
 | cons n l ih=>
  have:=Fu n;simp only [jv,List.flatMap_cons,List.length_append,List.length_cons] at*;omega
theorem Fv (l k:List Int):jv (l++k)=jv l++jv k:=by simp [jv]
theorem Xv {l:List Int} {k:Nat} {x:Int} (h:l[k]? =some x):jv (l.take (k+1))=jv (l.take k)++(p8 x).1:=by
 have e:l.take (k+1)=l.take k++[x]:=by rw [List.take_add_one,h];rfl
 rw [e,Fv];simp [jv]
theorem Lc (A:Option Addr) (n c:Nat) (l:List Int) (w:World) (h:Rd w w.heap.size 1 A n (intCells l)) (hn:n<=1000):
  Calls Tryz.prog 151 #[.slice A n c] w (jd w 5 1 (jv l).length (byteCells (jv l))):=by
 obtain ⟨j0,hj0,Pf,Pg,Ph⟩:=info_parts Ca;have H:=Lib.hid h;have HL:=Lib.hid h.afy;clear h
 go_enter Tryz.func151,Tryz.ntmps151
 go_wp2_with fail
 go_loopw [3,10] (λv i wr=> ∃ k:Nat,k<=n/\i= .int .i64 k/\Below w.heap.size w wr/\ ∃ A2 c2,v= .slice A2 (jv (l.take k)).length c2/\wr.ownsRow w.heap.size 5 1 (.slice A2 (jv (l.take k)).length c2) (jv (l.take k)).length (byteCells (jv (l.take k)))) (λ_ i _=>n-(intOf i).toNat)
 case atStart=>exact ⟨0,Nat.zero_le _,rfl,Below.refl _ _,none,0,rfl,iN _ _ _ _⟩
 case round=>
  obtain ⟨k,hk,rfl,hB,A2,c2,rfl,hown⟩:=hrel;have HB:=Lib.hid hB;have HO:=Lib.hid hown;have hle:=CO (l.take k);have hlk:(l.take k).length<=k:=List.length_take_le _ _;by_cases hlt:k<n
  ·obtain ⟨b,off,x,rfl,hb,he,c0⟩:=(H.out.below hB (Nat.le_refl _)).ak8 hlt;have HP:=Lib.hid (Xv he);have hl4:=Fu x;have HN:=Lib.hid (Nn x);clear hB hown he;generalize jv (l.take k)=lk at HO HP hle;generalize p8 x=r at HP HN hl4
   go_wp2_with fail
   refine (HN.out _).mono ?_;rintro e w2 ⟨A3,c3,rfl,hb2,hr2⟩;have HB2:=Lib.hid (HB.out.trans (hb2.mono HB.out.size));have HO2:Hid (w2.ownsRow w.heap.size 5 1 (.slice A2 lk.length c2) lk.length (byteCells lk)):=Lib.hid (K7 HO.out hb2);have HR2:=Lib.hid hr2;clear hb2 hr2
   go_wp2_with (at_builtin;refine jh _ rfl (.tmp 19) (.tmp 20) _ rfl w.heap.size 5 j0 _ 1 1 Tryz.underlying114 hj0 Pf Pg Ph rfl (by omega) _ lk.length (byteCells lk) rfl HO2.out w2.heap.size A3 r.1.length c3 (byteCells r.1) rfl HR2.out (byteCells_one _) (by simp only [maxLen];omega) (by omega) HB2.out.size ?_;intro v1 w3 hown1 hg1 JM)
   have HB3:=Lib.hid (HB2.out.grown hg1 HB2.out.size (HO2.out.yj ·));obtain ⟨A4,c4,rfl,_⟩:=lX hown1;rw [<-byteCells_append] at hown1;have HO3:=Lib.hid hown1;clear hown1 hg1 JM
   go_wp2_with fail
   go_roundw
   case rel=>exact ⟨k+1,by omega,by go_num,HB3.out,A4,c4,by rw [HP.out,List.length_append],by rw [HP.out,List.length_append];exact HO3.out⟩
   case measure=>simp [intOf];omega
  obtain rfl:k=n:=by omega
  rw [List.take_of_length_le (by have:=HL.out;omega)] at HO hown hle⊢;clear hB hown
  go_wp2_with fail
  go_ret
  exact ⟨A2,c2,rfl,HB.out,HO.out⟩
def fZ (r:dM):List Int:=[r.kind,r.queue,r.epoch,r.peer]++if kG r.kind=true then [r.ev.kind,r.ev.producer,r.ev.id,r.ev.body,r.ev.aQ,r.ev.hno] else []
def mR (r:dM):List UInt8×Int:=if aM r≠0 then ([],aM r) else (jv (fZ r),0)
theorem Xw (w:World) (a b c d:Int) (t:TypeId):Rd (w.alloc (.cells #[.int .i64 a,.int .i64 b,.int .i64 c,.int .i64 d] t)) (w.heap.size+1) 1 (some ⟨w.heap.size,0,none⟩) 4 (intCells [a,b,c,d]):=
 Rd.ad5 w t (intCells [a,b,c,d]) 4 1 rfl
theorem ab8 (w:World) (a b c d e f:Int) (t:TypeId):Rd (w.alloc (.cells #[.int .i64 a,.int .i64 b,.int .i64 c,.int .i64 d,.int .i64 e,.int .i64 f] t)) (w.heap.size+1) 1 (some ⟨w.heap.size,0,none⟩) 6 (intCells [a,b,c,d,e,f]):=
 Rd.ad5 w t (intCells [a,b,c,d,e,f]) 6 1 rfl
theorem Nz (r:dM) (w:World):Calls Tryz.prog 124 #[r.val] w (mQ w (mR r)):=by
 obtain ⟨j0,hj0,Pf,Pg,Ph⟩:=info_parts Ca;have HC:=Lib.hid (λw=>jo r w);have HR:Hid (mR r=if aM r≠0 then ([],aM r) else (jv ([r.kind,r.queue,r.epoch,r.peer]++if kG r.kind=true then [r.ev.kind,r.ev.producer,r.ev.id,r.ev.body,r.ev.aQ,r.ev.hno] else []),0)):=Lib.hid rfl;generalize mR r=z at HR⊢;generalize aM r=f at HC HR;obtain ⟨k,q,ep,pe,x0,x1,x2,x3,x4,x5⟩:=r;unfold dM.val at HC⊢;simp only at HC HR⊢
 go_enter Tryz.func124,Tryz.ntmps124
 go_wp2_with fail
 refine (HC.out _).mono ?_;rintro e w1 ⟨rfl,hb1⟩;have B0:=(fK.new w _ _).below hb1 (by simp);obtain ⟨c0,c1,c2,c3,c4,c5,c6,c7,c8,c9,cf⟩:=B0.kg;have hz1:w.heap.size<w1.heap.size:=B0.lt;have HB:Hid (Below w.heap.size w w1):=Lib.hid (Below.trans (by go_grown) (hb1.mono (by simp)));clear hb1;by_cases hf:f=0
 ·have HR2:=Lib.hid (HR.out.trans (if_neg (by simpa using hf)));subst hf;clear HR HC
  go_wp2_with fail
  refine (Lc _ 4 4 [k,q,ep,pe] _ (by have:=Xw w1 k q ep pe 3;simpa using this) (by omega)).mono ?_;rintro e w2 ⟨A1,d1,rfl,hb2,hown⟩;have C0:=(B0.alloc _).on hb2;have HB2:=Lib.hid ((HB.out.alloc (by omega) _).trans (hb2.mono (by simp;omega)));have HO:Hid (w2.ownsRow (w1.heap.size+1) 5 1 (.slice A1 (jv [k,q,ep,pe]).length d1) (jv [k,q,ep,pe]).length (byteCells (jv [k,q,ep,pe]))):=Lib.hid (by simpa using hown);have hz2:w1.heap.size+1<=w2.heap.size:=by have:=hb2.size;simpa using this
  have aFv:w.heap.size<w2.heap.size:=by omega
  have hl1:=CO [k,q,ep,pe];clear hb2 hown c0 c1 c2 c3 c4 c5 c6 c7 c8 c9 cf B0 HB;obtain ⟨c0,c1,c2,c3,c4,c5,c6,c7,c8,c9,cf⟩:=C0.kg
  cases he:kG k
  ·have e:=HR2.out;rw [if_neg (by rw [he];simp),List.append_nil] at e;subst e;clear HR2
   go_wp2_with (go_at_call 113;refine (fI _ _).mono ?_;rintro e w' ⟨rfl,rfl⟩;rw [he])
   go_ret2
   exact ⟨A1,d1,rfl,HB2.out,Rd.rO HO.out⟩
  have e:=HR2.out;rw [if_pos he,Fv] at e;subst e;clear HR2;have hl2:=CO [x0,x1,x2,x3,x4,x5];have HP:=Lib.hid (λA c w h=>Lc A 6 c [x0,x1,x2,x3,x4,x5] w h (by omega));simp only [List.length_cons,List.length_nil] at hl1 hl2
  go_wp2_with (go_at_call 113;refine (fI _ _).mono ?_;rintro e w' ⟨rfl,rfl⟩;rw [he])
  refine (HP.out _ _ _ (by have:=ab8 (w2.alloc (.cells #[.int .i64 x0,.int .i64 x1,.int .i64 x2,.int .i64 x3,.int .i64 x4,.int .i64 x5] 55)) x0 x1 x2 x3 x4 x5 3;simpa using this)).mono ?_;rintro e w3 ⟨A2,d2,rfl,hb3,hown2⟩;have HB3:=Lib.hid (((HB2.out.alloc (by omega) _).alloc (by simp;omega) _).trans (hb3.mono (by simp;omega)));have HO2:=Lib.hid (K7 ((HO.out.alloc _).alloc _) hb3);have HR3:=Lib.hid (Rd.rO hown2);have hz3:w2.heap.size<=w3.heap.size:=by have:=hb3.size;simp at this;omega
  clear hb3 hown2 HO HB2
  go_wp2_with (at_builtin;refine jh _ rfl (.tmp 27) (.tmp 43) _ rfl (w1.heap.size+1) 5 j0 _ 1 1 Tryz.underlying114 hj0 Pf Pg Ph rfl (by omega) _ (jv [k,q,ep,pe]).length (byteCells (jv [k,q,ep,pe])) rfl HO2.out w3.heap.size A2 (jv [x0,x1,x2,x3,x4,x5]).length d2 (byteCells (jv [x0,x1,x2,x3,x4,x5])) rfl HR3.out (byteCells_one _) (by simp only [maxLen];omega) (by omega) (by omega) ?_;intro v1 w4 hown1 hg1 JM;obtain ⟨A4,d4,rfl,_⟩:=lX hown1;rw [<-byteCells_append] at hown1)
  have HB4:=Lib.hid (HB3.out.grown hg1 HB3.out.size (λk hk=>by have:=HO2.out.yj k hk;omega))
  go_ret2
  exact ⟨A4,d4,by simp,HB4.out,by have:=Rd.rO hown1;simpa using this⟩
 have e:=HR.out.trans (if_pos hf);subst e;have t0:(f==0)=false:=by simpa using hf
 have t0':(f != 0)=true:=by simpa using hf
 clear hf
 go_wp2_with fail
 go_ret2
 exact ⟨none,0,rfl,HB.out,Rd.none_⟩
end Go.Proofs.YtnhimdkpkmbhlaaGreatDoor
