import Derived.Test.YtnhimdkpkmbhlaaGreatDoorG2996a
import Derived.Test.YtnhimdkpkmbhlaaGreatDoorG80371
import Derived.Test.YtnhimdkpkmbhlaaGreatDoorG8fc9e
set_option maxRecDepth 100000
set_option maxHeartbeats 8000000
set_option linter.unusedSimpArgs false
set_option linter.unusedVariables false
namespace Go.Proofs.YtnhimdkpkmbhlaaGreatDoor
open ChangeShapes WideShapes RowKit
def iU (l:List UInt8) (s:Int) (r:dM):List UInt8×Int×Int:=
 if dz l s=false then ([],0,6) else if (mR r).2≠0 then ([],0,(mR r).2) else if 100000<l.length+(jB (mR r).1).length then ([],0,14) else (l++jB (mR r).1,s,0)
theorem CQ (r:dM):(mR r).1.length<=40:=by
 unfold mR
 split
 ·simp
 have:=CO (fZ r);have h:(fZ r).length<=10:=by unfold fZ;split<;>simp
 simp only;omega
theorem CS:(Tryz.prog.info? 116).map (·.size)=some 2:=by kernel_rfl
theorem FH (A:Option Addr) (n c:Nat) (l:List UInt8) (s:Int) (r:dM) (w:World) (h:Rd w w.heap.size 1 A n (byteCells l)):
  Calls Tryz.prog 100 #[.agg #[.slice A n c,.int .i64 s],r.val] w (qF w (iU l s r)):=by
 obtain ⟨j0,hj0,Pf,Pg,Ph⟩:=info_parts Ca;have HO0:=Lib.hid (λw h=>kZ A n c l s w h);have HE0:=Lib.hid (λw=>Nz r w);have hel:=CQ r;have HR:Hid (iU l s r=if dz l s=false then ([],0,6) else if (mR r).2≠0 then ([],0,(mR r).2) else if 100000<l.length+(jB (mR r).1).length then ([],0,14) else (l++jB (mR r).1,s,0)):=Lib.hid rfl;have HOM:=Lib.hid (yO l s);have HM:=Lib.hid (nU (l:=l) (s:=s));have H:=Lib.hid h;have hl:=h.mP;subst hl;clear h;generalize iU l s r=z at HR⊢;generalize mR r=em at HE0 hel HR;obtain ⟨pl,pe⟩:=em;obtain ⟨k,q,ep,pr,x0,x1,x2,x3,x4,x5⟩:=r;unfold dM.val at HE0⊢;simp only at HE0 HR hel⊢;have HFr:=Lib.hid (λA n c w h hn=>QT A n c pl w h hn);have hfl:=tJ pl;generalize jB pl=fr at HFr hfl HR;have aFy:fr.length<=46:=by omega
 clear hfl
 go_enter Tryz.func100,Tryz.ntmps100
 go_wp2_with fail
 refine (HO0.out _ (by exact H.out.on (by go_grown))).mono ?_;rintro e w1 ⟨A1,c1,rfl,hb1,hown⟩;have B1:=((fK.new1 w _ _ _).alloc _).below hb1 (by simp<;>omega);have B2:=(fK.new2 w _ _ _ _).below hb1 (by simp);have hz1:w.heap.size+2<w1.heap.size:=B2.lt;have aFz:w.heap.size<w1.heap.size:=by omega
 have aFA:w.heap.size+1<w1.heap.size:=by omega
 have HB:Hid (Below w.heap.size w w1):=Lib.hid (Below.trans (by go_grown) (hb1.mono (by simp;omega)));clear hb1
 rcases HOM.out with ⟨e1,e2⟩ | ⟨e1,e2⟩
 ·rw [e1] at hown⊢;simp only at hown⊢;have HR2:=Lib.hid (HR.out.trans (if_neg (by rw [e2];simp)));obtain ⟨m1,m2,m3⟩:=HM.out e2;have M1:=Lib.hid m1;have mi:(l.length:Int)<=100000:=by omega
  clear m1;have HO:Hid (w1.ownsRow (w.heap.size+1+1+1) 5 1 (.slice A1 l.length c1) l.length (byteCells l)):=Lib.hid (by simpa using hown);have HA1:Hid (∀ k,(Value.slice A1 l.length c1).ownBlock=some k->w.heap.size+1+1<k/\k<w1.heap.size):=Lib.hid (λk hk=>⟨by have:=HO.out.yj k hk;omega,CG HO.out k hk⟩);clear e1 e2 hown HOM HM HR;have B1:=B1.alloc (.cells #[.slice A1 l.length c1,.int .i64 s] 116);have B2:=B2.alloc (.cells #[.slice A1 l.length c1,.int .i64 s] 116);have B3:=fK.new w1 #[.slice A1 l.length c1,.int .i64 s] 116;have HB:=Lib.hid (HB.out.alloc (by omega) (.cells #[.slice A1 l.length c1,.int .i64 s] 116));have HO:=Lib.hid (HO.out.alloc (.cells #[.slice A1 l.length c1,.int .i64 s] 116));obtain ⟨c0,d1,d2,d3,d4,d5,d6,d7,d8,d9,cf⟩:=B1.kg
  go_wp2_with fail
  have hz2:w.heap.size+2< (w1.alloc (.cells #[.slice A1 l.length c1,.int .i64 s] 116)).heap.size:=by simp;omega
  have hz3:w1.heap.size< (w1.alloc (.cells #[.slice A1 l.length c1,.int .i64 s] 116)).heap.size:=by simp
  clear c0 d1 d2 d3 d4 d5 d6 d7 d8 d9 cf;generalize w1.alloc (.cells #[.slice A1 l.length c1,.int .i64 s] 116)=w2 at B1 B2 B3 HB HO hz2 hz3⊢;refine (HE0.out _).mono ?_;rintro e w3 ⟨A2,c2,rfl,hb3,hr3⟩;simp only at hr3;have B2:=B2.on hb3;have B3:=B3.on hb3;have HO:=Lib.hid (K7 HO.out hb3);have HB:=Lib.hid (HB.out.trans (hb3.mono HB.out.size));have hz4:w2.heap.size<=w3.heap.size:=hb3.size;have HR3:=Lib.hid hr3;clear hb3 hr3 HE0 B1;simp only;by_cases he:pe=0
  ·have ad6:=Lib.hid (HR2.out.trans (if_neg (by simpa using he)));subst he;clear HR2
   go_wp2_with fail
   refine (HFr.out A2 pl.length c2 _ HR3.out (by omega)).mono ?_;rintro e w4 ⟨A3,c3,rfl,hb4,ahX⟩;have B2:=B2.on hb4;have B3:=B3.on hb4;have HO:=Lib.hid (K7 HO.out hb4);have HB:=Lib.hid (HB.out.trans (hb4.mono HB.out.size));have hz5:w3.heap.size<=w4.heap.size:=hb4.size;have HR4:=Lib.hid (Rd.rO ahX);obtain ⟨b0,b1,bf⟩:=B3.uj;clear hb4 ahX HR3 HFr;by_cases hbig:100000<l.length+fr.length
   ·have e:=ad6.out.trans (if_pos hbig);subst e;have hd1:(100000:Int)< (l.length:Int)+(fr.length:Int):=by omega
    clear ad6 hbig
    go_wp2_with (refine wpList_store_row rfl _ (.tmp 4) (.tmp 37) rfl (w.heap.size+1+1) rfl _ rfl _ _ B2 CS rfl rfl ?_;intro w9 Hg Av)
    have HU:Hid (Below w.heap.size w w9):=Lib.hid (Av.next HB.out (by omega));obtain ⟨r0,r1,rf⟩:=Hg.uj
    go_wp2_with fail
    refine bodyPost_ret (v:= .tuple #[.agg #[.slice none 0 0,.int .i64 0],.int .i64 14]) (by simp [results,Tryz.results100,go_sem,r0,r1]) rfl ?_;exact ⟨none,0,rfl,HU.out,Rd.none_,λa ha=>by cases ha⟩
   have e:=ad6.out.trans (if_neg hbig);subst e;have hd1:(l.length:Int)+(fr.length:Int)<=100000:=by omega
   clear ad6 hbig
   go_wp2_with (first
    | (at_builtin;refine jh _ rfl (.tmp 39) (.tmp 40) _ rfl (w.heap.size+1+1+1) 5 j0 _ 1 1 Tryz.underlying114 hj0 Pf Pg Ph rfl (by omega) _ l.length (byteCells l) rfl HO.out w4.heap.size A3 fr.length c3 (byteCells fr) rfl HR4.out (byteCells_one _) (by simp only [maxLen];omega) (by omega) (by omega) ?_;intro v1 w5 hown1 hg1 JM;obtain ⟨A5,c5,rfl,_⟩:=lX hown1;rw [<-byteCells_append] at hown1;have hne:=CG HO.out;have hlw:=HO.out.yj;have HNE:=Lib.hid (ak6 JM (λk=>k≠w1.heap.size/\w.heap.size+1+1<k) (λk hk=>by have:=HA1.out k hk;omega) (by omega));have E3:=B3.grown hg1 (λe=>by have:=HA1.out _ e;omega);have E2:=B2.grown hg1 (λe=>by have:=hlw _ e;omega);have HB5:=Lib.hid (HB.out.grown hg1 (by omega) (λk hk=>by have:=hlw k hk;omega));have HO5:=Lib.hid hown1;clear hown1 hg1 JM hne hlw b0 b1 bf;obtain ⟨b0,b1,bf⟩:=E3.uj)
    | (refine wpList_store_row rfl _ (.tmp 4) (.tmp 43) rfl (w.heap.size+1+1) rfl _ rfl _ _ ((CJ w5 w1.heap.size 0 (.slice A5 (l.length+fr.length) c5)).blk E2 (by omega)) CS rfl rfl ?_;intro w9 Hg Av))
   have U6:=CJ w5 w1.heap.size 0 (.slice A5 (l.length+fr.length) c5);have HU:Hid (Below w.heap.size w w9):=Lib.hid (Av.next (U6.next HB5.out (by omega)) (by omega));have HO9:=Av.own (U6.own HO5.out (λk hk=>(HNE.out k hk).1)) (λk hk=>by have:=HNE.out k hk;omega);obtain ⟨r0,r1,rf⟩:=Hg.uj;refine bodyPost_ret (v:= .tuple #[.agg #[.slice A5 (l.length+fr.length) c5,.int .i64 s],.int .i64 0]) (by simp [results,Tryz.results100,go_sem,r0,r1]) rfl ?_;exact ⟨A5,c5,by simp,HU.out,by have:=Rd.rO HO9;simpa using this,λa ha=>by have:=Ld HO9 a ha;omega⟩
  have e:=HR2.out.trans (if_pos he);subst e;have t0:(pe==0)=false:=by simpa using he
  have t0':(pe != 0)=true:=by simpa using he
  clear he HR2
  go_wp2_with (refine wpList_store_row rfl _ (.tmp 4) (.tmp 26) rfl (w.heap.size+1+1) rfl _ rfl _ _ B2 CS rfl rfl ?_;intro w9 Hg Av)
  have HU:Hid (Below w.heap.size w w9):=Lib.hid (Av.next HB.out (by omega));obtain ⟨r0,r1,rf⟩:=Hg.uj
  go_wp2_with fail
  refine bodyPost_ret (v:= .tuple #[.agg #[.slice none 0 0,.int .i64 0],.int .i64 pe]) (by simp [results,Tryz.results100,go_sem,r0,r1]) rfl ?_;exact ⟨none,0,rfl,HU.out,Rd.none_,λa ha=>by cases ha⟩
 rw [e1] at hown⊢;simp only at hown⊢;have e:=HR.out.trans (if_pos e2);subst e;clear e1 e2 HR HOM HM hown;have B2:=B2.alloc (.cells #[.slice A1 ([]:List UInt8).length c1,.int .i64 0] 116);have HB:=Lib.hid (HB.out.alloc (by omega) (.cells #[.slice A1 ([]:List UInt8).length c1,.int .i64 0] 116))
 go_wp2_with (refine wpList_store_row rfl _ (.tmp 4) (.tmp 18) rfl (w.heap.size+1+1) rfl _ rfl _ _ B2 CS rfl rfl ?_;intro w9 Hg Av)
 have HU:Hid (Below w.heap.size w w9):=Lib.hid (Av.next HB.out (by omega));obtain ⟨r0,r1,rf⟩:=Hg.uj
 go_wp2_with fail
 refine bodyPost_ret (v:= .tuple #[.agg #[.slice none 0 0,.int .i64 0],.int .i64 6]) (by simp [results,Tryz.results100,go_sem,r0,r1]) rfl ?_;exact ⟨none,0,rfl,HU.out,Rd.none_,λa ha=>by cases ha⟩
end Go.Proofs.YtnhimdkpkmbhlaaGreatDoor
