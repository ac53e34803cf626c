import Derived.Test.YtbffmhpkenoogaaGreatDoorG11008
import Derived.Test.YtbffmhpkenoogaaGreatDoorG2179d
import Derived.Test.YtbffmhpkenoogaaGreatDoorG9ac2e
import Derived.Test.YtbffmhpkenoogaaGreatDoorGa50b3
set_option maxRecDepth 100000
set_option maxHeartbeats 8000000
namespace Go.Proofs.YtbffmhpkenoogaaGreatDoor
open ChangeShapes WideShapes RowKit
def jm (l:List Int):List UInt8:=l.flatMap λn=>(pU n).1
theorem Fy (n:Int):(pU n).1.length<=4:=by
 unfold pU
 split<;>simp [yw]
theorem CV (l:List Int):(jm l).length<=4*l.length:=by
 induction l with
 | nil=>simp [jm]
 | cons n l ih=>
  have:=Fy n;simp only [jm,List.flatMap_cons,List.length_append,List.length_cons] at*;omega
theorem Fz (l k:List Int):jm (l++k)=jm l++jm k:=by simp [jm]
theorem XH {l:List Int} {k:Nat} {x:Int} (h:l[k]? =some x):jm (l.take (k+1))=jm (l.take k)++(pU x).1:=by
 have e:l.take (k+1)=l.take k++[x]:=by rw [List.take_add_one,h];rfl
 rw [e,Fz];simp [jm]
theorem K9 (A:Option Addr) (n c:Nat) (l:List Int) (w:World) (h:Rd w w.heap.size 1 A n (intCells l)) (hn:n<=1000):
  Calls Tryz.prog 179 #[.slice A n c] w (iX w 5 1 (jm l).length (byteCells (jm l))):=by
 obtain ⟨j0,hj0,Py,Pz,PD⟩:=info_parts Ci;have H:=Lib.hid h;have HL:=Lib.hid h.aeQ;clear h
 go_enter Tryz.func179,Tryz.ntmps179
 go_wp2_with fail
 go_loopw [3,10] (λv i wr=> ∃ k:Nat,k<=n/\i= .int .i64 k/\Below w.heap.size w wr/\ ∃ A2 c2,v= .slice A2 (jm (l.take k)).length c2/\wr.ownsRow w.heap.size 5 1 (.slice A2 (jm (l.take k)).length c2) (jm (l.take k)).length (byteCells (jm (l.take k)))) (λ_ i _=>n-(intOf i).toNat)
 case atStart=>exact ⟨0,Nat.zero_le _,rfl,Below.refl _ _,none,0,rfl,iP _ _ _ _⟩
 case round=>
  obtain ⟨k,hk,rfl,hB,A2,c2,rfl,hown⟩:=hrel;have HB:=Lib.hid hB;have HO:=Lib.hid hown;have hle:=CV (l.take k);have hlk:(l.take k).length<=k:=List.length_take_le _ _;by_cases hlt:k<n
  ·obtain ⟨b,off,x,rfl,hb,he,c0⟩:=(H.out.below hB (Nat.le_refl _)).ajU hlt;have HP:=Lib.hid (XH he);have hl4:=Fy x;have HN:=Lib.hid (Nt x);clear hB hown he;generalize jm (l.take k)=lk at HO HP hle;generalize pU x=r at HP HN hl4
   go_wp2_with fail
   refine (HN.out _).mono ?_;rintro e w2 ⟨A3,c3,rfl,hb2,hr2⟩;have HB2:=Lib.hid (HB.out.trans (hb2.mono HB.out.size));have HO2:Hid (w2.ownsRow w.heap.size 5 1 (.slice A2 lk.length c2) lk.length (byteCells lk)):=Lib.hid (K6 HO.out hb2);have HR2:=Lib.hid hr2;clear hb2 hr2
   go_wp2_with (at_builtin;refine jc _ rfl (.tmp 19) (.tmp 20) _ rfl w.heap.size 5 j0 _ 1 1 Tryz.underlying123 hj0 Py Pz PD rfl (by omega) _ lk.length (byteCells lk) rfl HO2.out w2.heap.size A3 r.1.length c3 (byteCells r.1) rfl HR2.out (byteCells_one _) (by simp only [maxLen];omega) (by omega) HB2.out.size ?_;intro v1 w3 hown1 hg1 JN)
   have HB3:=Lib.hid (HB2.out.grown hg1 HB2.out.size (HO2.out.yA ·));obtain ⟨A4,c4,rfl,_⟩:=lK hown1;rw [<-byteCells_append] at hown1;have HO3:=Lib.hid hown1;clear hown1 hg1 JN
   go_wp2_with fail
   go_roundw
   case rel=>exact ⟨k+1,by omega,by go_num,HB3.out,A4,c4,by rw [HP.out,List.length_append],by rw [HP.out,List.length_append];exact HO3.out⟩
   case measure=>simp [intOf];omega
  obtain rfl:k=n:=by omega
  rw [List.take_of_length_le (by have:=HL.out;omega)] at HO hown hle⊢;clear hB hown
  go_wp2_with fail
  go_ret
  exact ⟨A2,c2,rfl,HB.out,HO.out⟩
def fO (r:dz):List Int:=[r.kind,r.queue,r.epoch,r.peer]++if jQ r.kind=true then [r.ev.kind,r.ev.producer,r.ev.id,r.ev.body,r.ev.aN,r.ev.hno] else []
def mK (r:dz):List UInt8×Int:=if aJ r≠0 then ([],aJ r) else (jm (fO r),0)
theorem XI (w:World) (a b c d:Int) (t:TypeId):Rd (w.alloc (.cells #[.int .i64 a,.int .i64 b,.int .i64 c,.int .i64 d] t)) (w.heap.size+1) 1 (some ⟨w.heap.size,0,none⟩) 4 (intCells [a,b,c,d]):=
 Rd.ad3 w t (intCells [a,b,c,d]) 4 1 rfl
theorem abT (w:World) (a b c d e f:Int) (t:TypeId):Rd (w.alloc (.cells #[.int .i64 a,.int .i64 b,.int .i64 c,.int .i64 d,.int .i64 e,.int .i64 f] t)) (w.heap.size+1) 1 (some ⟨w.heap.size,0,none⟩) 6 (intCells [a,b,c,d,e,f]):=
 Rd.ad3 w t (intCells [a,b,c,d,e,f]) 6 1 rfl
theorem NJ (r:dz) (w:World):Calls Tryz.prog 149 #[r.val] w (mJ w (mK r)):=by
 obtain ⟨j0,hj0,Py,Pz,PD⟩:=info_parts Ci;have HC:=Lib.hid (λw=>ji r w);have HR:Hid (mK r=if aJ r≠0 then ([],aJ r) else (jm ([r.kind,r.queue,r.epoch,r.peer]++if jQ r.kind=true then [r.ev.kind,r.ev.producer,r.ev.id,r.ev.body,r.ev.aN,r.ev.hno] else []),0)):=Lib.hid rfl;generalize mK r=z at HR⊢;generalize aJ r=f at HC HR;obtain ⟨k,q,ep,pe,x0,x1,x2,x3,x4,x5⟩:=r;unfold dz.val at HC⊢;simp only at HC HR⊢
 go_enter Tryz.func149,Tryz.ntmps149
 go_wp2_with fail
 refine (HC.out _).mono ?_;rintro e w1 ⟨rfl,hb1⟩;have B0:=(fE.new w _ _).below hb1 (by simp);obtain ⟨c0,c1,c2,c3,c4,c5,c6,c7,c8,c9,cf⟩:=B0.jW;have hz1:w.heap.size<w1.heap.size:=B0.lt;have HB:Hid (Below w.heap.size w w1):=Lib.hid (Below.trans (by go_grown) (hb1.mono (by simp)));clear hb1;by_cases hf:f=0
 ·have HR2:=Lib.hid (HR.out.trans (if_neg (by simpa using hf)));subst hf;clear HR HC
  go_wp2_with fail
  refine (K9 _ 4 4 [k,q,ep,pe] _ (by have:=XI w1 k q ep pe 3;simpa using this) (by omega)).mono ?_;rintro e w2 ⟨A1,d1,rfl,hb2,hown⟩;have C0:=(B0.alloc _).on hb2;have HB2:=Lib.hid ((HB.out.alloc (by omega) _).trans (hb2.mono (by simp;omega)));have HO:Hid (w2.ownsRow (w1.heap.size+1) 5 1 (.slice A1 (jm [k,q,ep,pe]).length d1) (jm [k,q,ep,pe]).length (byteCells (jm [k,q,ep,pe]))):=Lib.hid (by simpa using hown);have hz2:w1.heap.size+1<=w2.heap.size:=by have:=hb2.size;simpa using this
  have axB:w.heap.size<w2.heap.size:=by omega
  have hl1:=CV [k,q,ep,pe];clear hb2 hown c0 c1 c2 c3 c4 c5 c6 c7 c8 c9 cf B0 HB;obtain ⟨c0,c1,c2,c3,c4,c5,c6,c7,c8,c9,cf⟩:=C0.jW
  cases he:jQ k
  ·have e:=HR2.out;rw [if_neg (by rw [he];simp),List.append_nil] at e;subst e;clear HR2
   go_wp2_with (go_at_call 133;refine (fC _ _).mono ?_;rintro e w' ⟨rfl,rfl⟩;rw [he])
   go_ret2
   exact ⟨A1,d1,rfl,HB2.out,Rd.sj HO.out⟩
  have e:=HR2.out;rw [if_pos he,Fz] at e;subst e;clear HR2;have hl2:=CV [x0,x1,x2,x3,x4,x5];have HP:=Lib.hid (λA c w h=>K9 A 6 c [x0,x1,x2,x3,x4,x5] w h (by omega));simp only [List.length_cons,List.length_nil] at hl1 hl2
  go_wp2_with (go_at_call 133;refine (fC _ _).mono ?_;rintro e w' ⟨rfl,rfl⟩;rw [he])
  refine (HP.out _ _ _ (by have:=abT (w2.alloc (.cells #[.int .i64 x0,.int .i64 x1,.int .i64 x2,.int .i64 x3,.int .i64 x4,.int .i64 x5] 75)) x0 x1 x2 x3 x4 x5 3;simpa using this)).mono ?_;rintro e w3 ⟨A2,d2,rfl,hb3,hown2⟩;have HB3:=Lib.hid (((HB2.out.alloc (by omega) _).alloc (by simp;omega) _).trans (hb3.mono (by simp;omega)));have HO2:=Lib.hid (K6 ((HO.out.alloc _).alloc _) hb3);have HR3:=Lib.hid (Rd.sj hown2);have hz3:w2.heap.size<=w3.heap.size:=by have:=hb3.size;simp at this;omega
  clear hb3 hown2 HO HB2
  go_wp2_with (at_builtin;refine jc _ rfl (.tmp 27) (.tmp 43) _ rfl (w1.heap.size+1) 5 j0 _ 1 1 Tryz.underlying123 hj0 Py Pz PD rfl (by omega) _ (jm [k,q,ep,pe]).length (byteCells (jm [k,q,ep,pe])) rfl HO2.out w3.heap.size A2 (jm [x0,x1,x2,x3,x4,x5]).length d2 (byteCells (jm [x0,x1,x2,x3,x4,x5])) rfl HR3.out (byteCells_one _) (by simp only [maxLen];omega) (by omega) (by omega) ?_;intro v1 w4 hown1 hg1 JN;obtain ⟨A4,d4,rfl,_⟩:=lK hown1;rw [<-byteCells_append] at hown1)
  have HB4:=Lib.hid (HB3.out.grown hg1 HB3.out.size (λk hk=>by have:=HO2.out.yA k hk;omega))
  go_ret2
  exact ⟨A4,d4,by simp,HB4.out,by have:=Rd.sj hown1;simpa using this⟩
 have e:=HR.out.trans (if_pos hf);subst e;have t0:(f==0)=false:=by simpa using hf
 have t0':(f != 0)=true:=by simpa using hf
 clear hf
 go_wp2_with fail
 go_ret2
 exact ⟨none,0,rfl,HB.out,Rd.none_⟩
end Go.Proofs.YtbffmhpkenoogaaGreatDoor
