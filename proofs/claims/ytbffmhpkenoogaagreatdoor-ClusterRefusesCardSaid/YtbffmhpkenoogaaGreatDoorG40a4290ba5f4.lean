/- Parts of proofs: lemmas on memory, on single functions and on the plain models; no condition of their own. -/
import Derived.Test.YtbffmhpkenoogaaGreatDoorG00dfeb2e0540
import Derived.Test.YtbffmhpkenoogaaGreatDoorG3a717e6e86da
import Derived.Test.YtbffmhpkenoogaaGreatDoorG46ca770715c5
import Derived.Test.YtbffmhpkenoogaaGreatDoorG470df31e9fbe
set_option linter.unusedVariables false
set_option linter.unusedSimpArgs false
set_option linter.unnecessarySimpa false
set_option maxRecDepth 100000
set_option maxHeartbeats 8000000

namespace Go.Proofs.YtbffmhpkenoogaaGreatDoor
open Go.ChangeShapes Go.WideShapes Go.RowKit
def jd (l:List Int):List UInt8:=l.flatMap fun n=>(oQ n).1
theorem DX (n:Int):(oQ n).1.length≤4:=by
 unfold oQ
 split<;>simp [xB]
theorem BF (l:List Int):(jd l).length≤4*l.length:=by
 induction l with
 | nil=>simp [jd]
 | cons n l ih=>
  have:=DX n;simp only [jd,List.flatMap_cons,List.length_append,List.length_cons] at*;omega
theorem DY (l k:List Int):jd (l++k)=jd l++jd k:=by simp [jd]
theorem Vu {l:List Int} {k:Nat} {x:Int} (h:l[k]? =some x):jd (l.take (k+1))=jd (l.take k)++(oQ x).1:=by
 have e:l.take (k+1)=l.take k++[x]:=by rw [List.take_add_one,h];rfl
 rw [e,DY];simp [jd]
theorem Ju (A:Option Addr) (n c:Nat) (l:List Int) (w:World) (h:Rd w w.heap.size 1 A n (intCells l)) (hn:n≤1000):
  Calls Tryz.prog 179 #[.slice A n c] w (iM w 5 1 (jd l).length (byteCells (jd l))):=by
 obtain ⟨j0,hj0,Nr,Ns,Nt⟩:=info_parts AY;have H:=Lib.hid h;have HL:=Lib.hid h.adz;clear h
 go_enter Tryz.func179,Tryz.ntmps179
 go_wp2_with fail
 go_loopw [3,10] (fun v i wr=> ∃ k:Nat,k≤n∧i= .int .i64 k∧Below w.heap.size w wr∧ ∃ A2 c2,v= .slice A2 (jd (l.take k)).length c2∧wr.ownsRow w.heap.size 5 1 (.slice A2 (jd (l.take k)).length c2) (jd (l.take k)).length (byteCells (jd (l.take k)))) (fun _ i _=>n-(intOf i).toNat)
 case atStart=>exact ⟨0,Nat.zero_le _,rfl,Below.refl _ _,none,0,rfl,iw _ _ _ _⟩
 case round=>
  obtain ⟨k,hk,rfl,hB,A2,c2,rfl,hown⟩:=hrel;have HB:=Lib.hid hB;have HO:=Lib.hid hown;have hle:=BF (l.take k);have hlk:(l.take k).length≤k:=List.length_take_le _ _;by_cases hlt:k<n
  ·obtain ⟨b,off,x,rfl,hb,he,c0⟩:=(H.out.below hB (Nat.le_refl _)).aiT hlt;have HP:=Lib.hid (Vu he);have hl4:=DX x;have HN:=Lib.hid (Ld x);clear hB hown he;generalize jd (l.take k)=lk at HO HP hle;generalize oQ x=r at HP HN hl4
   go_wp2_with fail
   refine (HN.out _).mono ?_;rintro e w2 ⟨A3,c3,rfl,hb2,hr2⟩;have HB2:=Lib.hid (HB.out.trans (hb2.mono HB.out.size));have HO2:Hid (w2.ownsRow w.heap.size 5 1 (.slice A2 lk.length c2) lk.length (byteCells lk)):=Lib.hid (Jp HO.out hb2);have HR2:=Lib.hid hr2;clear hb2 hr2
   go_wp2_with (at_builtin;refine iR _ rfl (.tmp 19) (.tmp 20) _ rfl w.heap.size 5 j0 _ 1 1 Tryz.underlying123 hj0 Nr Ns Nt rfl (by omega) _ lk.length (byteCells lk) rfl HO2.out w2.heap.size A3 r.1.length c3 (byteCells r.1) rfl HR2.out (byteCells_one _) (by simp only [maxLen];omega) (by omega) HB2.out.size ?_;intro v1 w3 hown1 hg1 Hy)
   have HB3:=Lib.hid (HB2.out.grown hg1 HB2.out.size (HO2.out.xC ·));obtain ⟨A4,c4,rfl,_⟩:=kY hown1;rw [←byteCells_append] at hown1;have HO3:=Lib.hid hown1;clear hown1 hg1 Hy
   go_wp2_with fail
   go_roundw
   case rel=>exact ⟨k+1,by omega,by go_num,HB3.out,A4,c4,by rw [HP.out,List.length_append],by rw [HP.out,List.length_append];exact HO3.out⟩
   case measure=>simp [intOf];omega
  obtain rfl:k=n:=by omega
  rw [List.take_of_length_le (by have:=HL.out;omega)] at HO hown hle⊢;clear hB hown
  go_wp2_with fail
  go_ret
  exact ⟨A2,c2,rfl,HB.out,HO.out⟩
def fu (r:dx):List Int:=[r.kind,r.queue,r.epoch,r.peer]++if jS r.kind=true then [r.ev.kind,r.ev.producer,r.ev.id,r.ev.body,r.ev.aL,r.ev.hno] else []
def l6 (r:dx):List UInt8×Int:=if aP r≠0 then ([],aP r) else (jd (fu r),0)
theorem Vv (w:World) (a b c d:Int) (t:TypeId):Rd (w.alloc (.cells #[.int .i64 a,.int .i64 b,.int .i64 c,.int .i64 d] t)) (w.heap.size+1) 1 (some ⟨w.heap.size,0,none⟩) 4 (intCells [a,b,c,d]):=
 Rd.abY w t (intCells [a,b,c,d]) 4 1 rfl
theorem aar (w:World) (a b c d e f:Int) (t:TypeId):Rd (w.alloc (.cells #[.int .i64 a,.int .i64 b,.int .i64 c,.int .i64 d,.int .i64 e,.int .i64 f] t)) (w.heap.size+1) 1 (some ⟨w.heap.size,0,none⟩) 6 (intCells [a,b,c,d,e,f]):=
 Rd.abY w t (intCells [a,b,c,d,e,f]) 6 1 rfl
theorem Lv (r:dx) (w:World):Calls Tryz.prog 149 #[r.val] w (l5 w (l6 r)):=by
 obtain ⟨j0,hj0,Nr,Ns,Nt⟩:=info_parts AY;have HC:=Lib.hid (fun w=>gu r w);have HR:Hid (l6 r=if aP r≠0 then ([],aP r) else (jd ([r.kind,r.queue,r.epoch,r.peer]++if jS r.kind=true then [r.ev.kind,r.ev.producer,r.ev.id,r.ev.body,r.ev.aL,r.ev.hno] else []),0)):=Lib.hid rfl;generalize l6 r=z at HR⊢;generalize aP r=f at HC HR;obtain ⟨k,q,ep,pe,x0,x1,x2,x3,x4,x5⟩:=r;unfold dx.val at HC⊢;simp only at HC HR⊢
 go_enter Tryz.func149,Tryz.ntmps149
 go_wp2_with fail
 refine (HC.out _).mono ?_;rintro e w1 ⟨rfl,hb1⟩;have B0:=(eP.new w _ _).below hb1 (by simp);obtain ⟨c0,c1,c2,c3,c4,c5,c6,c7,c8,c9,cf⟩:=B0.jJ;have hz1:w.heap.size<w1.heap.size:=B0.lt;have HB:Hid (Below w.heap.size w w1):=Lib.hid (Below.trans (by go_grown) (hb1.mono (by simp)));clear hb1;by_cases hf:f=0
 ·have HR2:=Lib.hid (HR.out.trans (if_neg (by simpa using hf)));subst hf;clear HR HC
  go_wp2_with fail
  refine (Ju _ 4 4 [k,q,ep,pe] _ (by have:=Vv w1 k q ep pe 3;simpa using this) (by omega)).mono ?_;rintro e w2 ⟨A1,d1,rfl,hb2,hown⟩;have C0:=(B0.alloc _).on hb2;have HB2:=Lib.hid ((HB.out.alloc (by omega) _).trans (hb2.mono (by simp;omega)));have HO:Hid (w2.ownsRow (w1.heap.size+1) 5 1 (.slice A1 (jd [k,q,ep,pe]).length d1) (jd [k,q,ep,pe]).length (byteCells (jd [k,q,ep,pe]))):=Lib.hid (by simpa using hown);have hz2:w1.heap.size+1≤w2.heap.size:=by have:=hb2.size;simpa using this
  have aBF:w.heap.size<w2.heap.size:=by omega
  have hl1:=BF [k,q,ep,pe];clear hb2 hown c0 c1 c2 c3 c4 c5 c6 c7 c8 c9 cf B0 HB;obtain ⟨c0,c1,c2,c3,c4,c5,c6,c7,c8,c9,cf⟩:=C0.jJ
  cases he:jS k
  ·have e:=HR2.out;rw [if_neg (by rw [he];simp),List.append_nil] at e;subst e;clear HR2
   go_wp2_with (go_at_call 133;refine (eG _ _).mono ?_;rintro e w' ⟨rfl,rfl⟩;rw [he])
   go_ret2
   exact ⟨A1,d1,rfl,HB2.out,Rd.rF HO.out⟩
  have e:=HR2.out;rw [if_pos he,DY] at e;subst e;clear HR2;have hl2:=BF [x0,x1,x2,x3,x4,x5];have HP:=Lib.hid (fun A c w h=>Ju A 6 c [x0,x1,x2,x3,x4,x5] w h (by omega));simp only [List.length_cons,List.length_nil] at hl1 hl2
  go_wp2_with (go_at_call 133;refine (eG _ _).mono ?_;rintro e w' ⟨rfl,rfl⟩;rw [he])
  refine (HP.out _ _ _ (by have:=aar (w2.alloc (.cells #[.int .i64 x0,.int .i64 x1,.int .i64 x2,.int .i64 x3,.int .i64 x4,.int .i64 x5] 75)) x0 x1 x2 x3 x4 x5 3;simpa using this)).mono ?_;rintro e w3 ⟨A2,d2,rfl,hb3,hown2⟩;have HB3:=Lib.hid (((HB2.out.alloc (by omega) _).alloc (by simp;omega) _).trans (hb3.mono (by simp;omega)));have HO2:=Lib.hid (Jp ((HO.out.alloc _).alloc _) hb3);have HR3:=Lib.hid (Rd.rF hown2);have hz3:w2.heap.size≤w3.heap.size:=by have:=hb3.size;simp at this;omega
  clear hb3 hown2 HO HB2
  go_wp2_with (at_builtin;refine iR _ rfl (.tmp 27) (.tmp 43) _ rfl (w1.heap.size+1) 5 j0 _ 1 1 Tryz.underlying123 hj0 Nr Ns Nt rfl (by omega) _ (jd [k,q,ep,pe]).length (byteCells (jd [k,q,ep,pe])) rfl HO2.out w3.heap.size A2 (jd [x0,x1,x2,x3,x4,x5]).length d2 (byteCells (jd [x0,x1,x2,x3,x4,x5])) rfl HR3.out (byteCells_one _) (by simp only [maxLen];omega) (by omega) (by omega) ?_;intro v1 w4 hown1 hg1 Hy;obtain ⟨A4,d4,rfl,_⟩:=kY hown1;rw [←byteCells_append] at hown1)
  have HB4:=Lib.hid (HB3.out.grown hg1 HB3.out.size (fun k hk=>by have:=HO2.out.xC k hk;omega))
  go_ret2
  exact ⟨A4,d4,by simp,HB4.out,by have:=Rd.rF hown1;simpa using this⟩
 have e:=HR.out.trans (if_pos hf);subst e;have t0:(f==0)=false:=by simpa using hf
 have t0':(f != 0)=true:=by simpa using hf
 clear hf
 go_wp2_with fail
 go_ret2
 exact ⟨none,0,rfl,HB.out,Rd.none_⟩
end Go.Proofs.YtbffmhpkenoogaaGreatDoor
