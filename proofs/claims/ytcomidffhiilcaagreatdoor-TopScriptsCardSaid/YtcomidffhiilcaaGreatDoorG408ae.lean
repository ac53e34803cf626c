import Derived.Deep.DeepCutAuto
import Derived.Deep.CutRange
import Derived.Test.YtcomidffhiilcaaGreatDoorGb122e
set_option maxRecDepth 100000
set_option maxHeartbeats 8000000
set_option linter.unusedSimpArgs false
set_option linter.unusedVariables false
namespace Go.Proofs.YtcomidffhiilcaaGreatDoor
open ChangeShapes WideShapes RowKit
theorem adO {x:lK} {id:Int} (h:(tX x id).2=0):x.top-8<=id:=by
 have hz:=ME h;unfold tX at h;rw [if_neg (by simp [hz.1]),if_neg oQ] at h;by_cases h1:x.top<=id
 ·omega
 rw [if_neg h1] at h;by_cases h2:id<x.top-8
 ·rw [if_pos h2] at h
  cases h
 omega
theorem xP (t:Int) (b0 b1 b2 b3 b4 b5 b6 b7:Bool) (w:World) (h0:0<=t) (h1:t<=1073741825):
  Calls Tryz.prog 179 #[.agg #[.int .i64 t,.bool b0,.bool b1,.bool b2,.bool b3,.bool b4,.bool b5,.bool b6,.bool b7]] w λe w'=>e= .returned (.int .i64 (t-8))/\Below w.heap.size w w':=
 yE ⟨t,b0,b1,b2,b3,b4,b5,b6,b7⟩ w h0 h1
theorem QA (T t:Int) (f:Nat->Bool) (k:Nat):mV T (pJ t f (k+1))=if f k=true then tJ (mV T (pJ t f k)) (t-8+k-T+8) else mV T (pJ t f k):=by
 rw [show pJ t f (k+1)=if f k=true then pJ t f k++[t-8+k] else pJ t f k from rfl]
 split
 ·rw [Gq]
 rfl
structure TB (w:World) (T:Int) (bs:List Bool) (row:Array Value) (b2:Nat) (wr:World):Prop where
 below:Below w.heap.size w wr
 arg:fK wr w.heap.size row 221
 res:fK wr (w.heap.size+1) #[.int .i64 0,.bool false,.bool false,.bool false,.bool false,.bool false,.bool false,.bool false,.bool false] 221
 out:fK wr b2 (uX T bs) 221
theorem vM {w:World} {b:Nat} {T:Int} {bs:List Bool} {ty:TypeId} (h:fK w b (uX T bs) ty) {j:Nat} (hj:j<bs.length):w.cell? ⟨b,1+j,none⟩=some (.bool (bs.getD j false)):=
 h.cell (by rw [Nat.add_comm];simp [uX,hj])
theorem VF (T:Int) (bs:List Bool) (j:Nat):(uX T bs).setIfInBounds (1+j) (.bool true)=uX T (bs.set j true):=by
 simp [uX,Nat.add_comm 1 j,List.map_set]
theorem TB.on {w wr wx:World} {T:Int} {bs:List Bool} {row:Array Value} {b2:Nat} (h:TB w T bs row b2 wr) (hb:Below wr.heap.size wr wx):TB w T bs row b2 wx:=
 ⟨h.below.trans (hb.mono h.below.size),h.arg.on hb,h.res.on hb,h.out.on hb⟩
theorem TB.vK {w wr:World} {T:Int} {bs:List Bool} {row:Array Value} {b2:Nat} (h:TB w T bs row b2 wr) (hb:w.heap.size+1<b2) (j:Nat):TB w T (bs.set j true) row b2 (wr.setCell ⟨b2,1+j,none⟩ (.bool true)):=
 ⟨h.below.setCell jQ _,h.arg.other _ jQ _,h.res.other _ jQ _,(h.out.vK _ _).cast (VF _ _ _)⟩
theorem Gt (x:lK) (id:Int) (w:World):Calls Tryz.prog 173 #[x.val,.int .i64 id] w (Yv w (jT x id)):=by
 have HS:=Lib.hid (RZ x id);have HT:=Lib.hid (CP (x:=x));have HSZ:=Lib.hid (ME (x:=x) (id:=id));have HSL:=Lib.hid (adO (x:=x) (id:=id));have HX:=Lib.hid (MC x);have HZ0:Hid (∀ z,z=jT x id->z=if (tX x id).2≠0 then (Ak,false,(tX x id).2) else if (tX x id).1=true then (x,false,0) else (Yu x id,true,0)):=Lib.hid (λz h=>h);generalize hz:jT x id=z;have HZ:=Lib.hid (HZ0.out z hz.symm);clear hz HZ0;have HW:Hid (Yu x id=ajQ (max x.top (id+1)) (tJ (mV (max x.top (id+1)) (pJ x.top x.at 8)) (id-max x.top (id+1)+8))):=by
  unfold Hid Yu;rw [Gq]
 generalize Yu x id=ow at HZ HW;generalize fF x=wf at HT HSZ;generalize tX x id=r at HS HSZ HSL HZ;have hat:=Lib.hid (rfl:x.at=x.at);generalize x.at=f at HX HW hat;clear hat;obtain ⟨rb,rk⟩:=r;obtain ⟨t,b0,b1,b2,b3,b4,b5,b6,b7⟩:=x;unfold lK.val at*;simp only at HT HSZ HSL HS HZ HX HW⊢
 go_enter Tryz.func173,Tryz.ntmps173
 go_wp2_with fail
 refine (HS.out _).mono ?_;rintro e w1 ⟨rfl,hb1⟩;have RA:=((fK.new w _ _).alloc _).below hb1 jQ;have RB:=(fK.new1 w _ _ _).below hb1 iQ;obtain ⟨c0,c1,c2,c3,c4,c5,c6,c7,c8,cf⟩:=RA.rC;obtain ⟨r0,r1,r2,r3,r4,r5,r6,r7,r8,rf⟩:=RB.rC;have hsz:w.heap.size+2<=w1.heap.size:=by have:=hb1.size;simp at this;omega
 have HB:Hid (Below w.heap.size w w1):=Lib.hid ((((Below.refl _ w).alloc (Nat.le_refl _) _).alloc iQ _).trans (hb1.mono jQ));clear hb1;by_cases MG:rk=0
 ·obtain ⟨hwf,i0',i1'⟩:=HSZ.out MG;have hlow:=HSL.out MG;subst MG;obtain ⟨t0,t1⟩:=HT.out hwf
  cases rb
  ·have e:=HZ.out;rw [if_neg iQ,if_neg iQ] at e;subst e;have hz0:w.heap.size<w1.heap.size:=oQ;have hz1:w.heap.size+1<w1.heap.size:=oQ;by_cases hT:t<id+1
   ·have hT2:t<=id:=oQ;rw [show max t (id+1)=id+1 by omega] at HW;have hB:=HB.out
    go_wp2_with fail
    try simp only [show max t (id+1)=id+1 by omega]
    go_loopw [33] (λi wr=> ∃ k:Nat,k<=8/\i= .int .i64 k/\TB w (id+1) (mV (id+1) (pJ t f k)) #[.int .i64 t,.bool b0,.bool b1,.bool b2,.bool b3,.bool b4,.bool b5,.bool b6,.bool b7] w1.heap.size wr) (λi _=>8-(intOf i).toNat)
    case atStart=>exact ⟨0,by omega,rfl,⟨hB.alloc oQ _,RA.alloc _,RB.alloc _,fK.new w1 _ _⟩⟩
    case round=>
     obtain ⟨k,hk,rfl,hw⟩:=hrel;have HW2:=Lib.hid hw;have hlen:=Kh (id+1) (pJ t f k);have hzr:w1.heap.size<wr.heap.size:=hw.out.lt;obtain ⟨c0,c1,c2,c3,c4,c5,c6,c7,c8,cf⟩:=hw.arg.rC;by_cases hlt:k<8
     ·have HE:=Lib.hid (QA (id+1) t f k);have hx:=HX.out k hlt;generalize mV (id+1) (pJ t f k)=bs at HW2 HE hlen hw;obtain ⟨a0,a1,a2,a3,a4,a5,a6,a7,rfl⟩:=eight hlen;obtain ⟨d0,d1,d2,d3,d4,d5,d6,d7,d8,df⟩:=hw.out.rC;clear hw
      go_upto_region 10 with fail
      go_cut [12,33] from 33 to 52 (λs12 s33 wx=>s12= .int .i64 (t-8+k-((id+1)-8))/\s33= .int .i64 k/\Below wr.heap.size wr wx)
      case first=>
       go_region_with (go_at_call 179;refine (xP _ _ _ _ _ _ _ _ _ _ oQ oQ).mono ?_;rintro e w2 ⟨rfl,hb2⟩;have hbx:Below wr.heap.size wr w2:=(by first | exact ⟨hb2.os,hb2.tape,hb2.output,hb2.size,hb2.block⟩ | exact Below.trans hbx (hb2.mono hbx.size));obtain ⟨hc2,hf2⟩:=Cj hbx)
       all_goals (go_wp2_with fail;go_meet;exact ⟨by rw [IntWalk.i64_in (t-8+(k:Int)) oQ,IntWalk.i64_in _ oQ],rfl,hbx⟩)
      case rest=>
       obtain ⟨MH,rfl,hbx⟩:=hcut;have HW3:=Lib.hid (HW2.out.on hbx);clear HW2 hbx c0 c1 c2 c3 c4 c5 c6 c7 c8 cf d0 d1 d2 d3 d4 d5 d6 d7 d8 df
       cases I7:f k
       ·rw [I7] at hx HE;simp only [Bool.false_eq_true,if_false] at HE;subst MH;clear I7
        go_wp2_with fail
        go_roundw
        case rel=>exact ⟨k+1,by omega,by go_num,by rw [HE.out];exact HW3.out⟩
        case measure=>simp [intOf];omega
       rw [I7] at hx HE;simp only [if_true] at HE;clear I7;by_cases hneg:t-8+(k:Int)-((id+1)-8)<0
       ·rw [tJ,if_neg oQ] at HE;subst MH
        go_wp2_with fail
        go_roundw
        case rel=>exact ⟨k+1,by omega,by go_num,by rw [HE.out];exact HW3.out⟩
        case measure=>simp [intOf];omega
       obtain ⟨j,hj⟩:=Int.eq_ofNat_of_zero_le (show 0<=t-8+(k:Int)-((id+1)-8) by omega);have hj8:j<8:=oQ;rw [tJ,if_pos oQ,show t-8+(k:Int)-(id+1)+8=(j:Int) by omega,Int.toNat_natCast] at HE;rw [hj] at MH;subst MH;have cj:=vM HW3.out.out (j:=j) (by simpa using hj8);have fj:=HW3.out.out.free (1+j);clear hj hneg
       go_wp2_with fail
       go_roundw
       case rel=>exact ⟨k+1,by omega,by go_num,by rw [HE.out];exact HW3.out.vK hz1 j⟩
       case measure=>simp [intOf];omega
     obtain rfl:k=8:=oQ;have Yx:=Lib.hid HW.out;generalize mV (id+1) (pJ t f 8)=bs at HW2 Yx hlen hw;obtain ⟨a0,a1,a2,a3,a4,a5,a6,a7,rfl⟩:=eight hlen;obtain ⟨d0,d1,d2,d3,d4,d5,d6,d7,d8,df⟩:=hw.out.rC;clear hw c0 c1 c2 c3 c4 c5 c6 c7 c8 cf
     go_wp2_with fail
     refine (xP _ _ _ _ _ _ _ _ _ _ oQ oQ).mono ?_;rintro e w3 ⟨rfl,hb3⟩;have HW3:=Lib.hid (HW2.out.on hb3);clear hb3 d0 d1 d2 d3 d4 d5 d6 d7 d8 df;obtain ⟨j,hj⟩:=Int.eq_ofNat_of_zero_le (show 0<=id-((id+1)-8) by omega);have hj8:j<8:=oQ;rw [tJ,if_pos oQ,show id-(id+1)+8=(j:Int) by omega,Int.toNat_natCast] at Yx;have cj:=vM HW3.out.out (j:=j) (by simpa using hj8);have fj:=HW3.out.out.free (1+j);have HJ:=Lib.hid hj;have Yy:=Lib.hid (HW3.out.vK hz1 j);have hl2:([a0,a1,a2,a3,a4,a5,a6,a7].set j true).length=8:=by simp
     generalize [a0,a1,a2,a3,a4,a5,a6,a7].set j true=bs2 at Yx Yy hl2;obtain ⟨p0,p1,p2,p3,p4,p5,p6,p7,rfl⟩:=eight hl2;obtain ⟨d0,d1,d2,d3,d4,d5,d6,d7,d8,df⟩:=Yy.out.out.rC;obtain ⟨g0,g1,g2,g3,g4,g5,g6,g7,g8,gf⟩:=Yy.out.res.rC;clear hl2
     go_wp2_with fail
     refine bodyPost_ret (v:= .tuple #[.agg #[.int .i64 (id+1),.bool p0,.bool p1,.bool p2,.bool p3,.bool p4,.bool p5,.bool p6,.bool p7],.bool true,.int .i64 0]) (by simp [results,Tryz.results173,go_sem,g0,g1,g2,g3,g4,g5,g6,g7,g8]) rfl ?_;have hB:=Yy.out.below;exact ⟨by rw [Yx.out];rfl,by go_grown⟩
   have hT2: ¬ t<=id:=oQ;rw [show max t (id+1)=t by omega] at HW;have hB:=HB.out
   go_wp2_with fail
   try simp only [show max t (id+1)=t by omega]
   go_loopw [33] (λi wr=> ∃ k:Nat,k<=8/\i= .int .i64 k/\TB w (t) (mV (t) (pJ t f k)) #[.int .i64 t,.bool b0,.bool b1,.bool b2,.bool b3,.bool b4,.bool b5,.bool b6,.bool b7] w1.heap.size wr) (λi _=>8-(intOf i).toNat)
   case atStart=>exact ⟨0,by omega,rfl,⟨hB.alloc oQ _,RA.alloc _,RB.alloc _,fK.new w1 _ _⟩⟩
   case round=>
    obtain ⟨k,hk,rfl,hw⟩:=hrel;have HW2:=Lib.hid hw;have hlen:=Kh (t) (pJ t f k);have hzr:w1.heap.size<wr.heap.size:=hw.out.lt;obtain ⟨c0,c1,c2,c3,c4,c5,c6,c7,c8,cf⟩:=hw.arg.rC;by_cases hlt:k<8
    ·have HE:=Lib.hid (QA (t) t f k);have hx:=HX.out k hlt;generalize mV (t) (pJ t f k)=bs at HW2 HE hlen hw;obtain ⟨a0,a1,a2,a3,a4,a5,a6,a7,rfl⟩:=eight hlen;obtain ⟨d0,d1,d2,d3,d4,d5,d6,d7,d8,df⟩:=hw.out.rC;clear hw
     go_upto_region 10 with fail
     go_cut [12,33] from 33 to 52 (λs12 s33 wx=>s12= .int .i64 (t-8+k-((t)-8))/\s33= .int .i64 k/\Below wr.heap.size wr wx)
     case first=>
      go_region_with (go_at_call 179;refine (xP _ _ _ _ _ _ _ _ _ _ oQ oQ).mono ?_;rintro e w2 ⟨rfl,hb2⟩;have hbx:Below wr.heap.size wr w2:=(by first | exact ⟨hb2.os,hb2.tape,hb2.output,hb2.size,hb2.block⟩ | exact Below.trans hbx (hb2.mono hbx.size));obtain ⟨hc2,hf2⟩:=Cj hbx)
      all_goals (go_wp2_with fail;go_meet;exact ⟨by rw [IntWalk.i64_in (t-8+(k:Int)) oQ,IntWalk.i64_in _ oQ],rfl,hbx⟩)
     case rest=>
      obtain ⟨MH,rfl,hbx⟩:=hcut;have HW3:=Lib.hid (HW2.out.on hbx);clear HW2 hbx c0 c1 c2 c3 c4 c5 c6 c7 c8 cf d0 d1 d2 d3 d4 d5 d6 d7 d8 df
      cases I7:f k
      ·rw [I7] at hx HE;simp only [Bool.false_eq_true,if_false] at HE;subst MH;clear I7
       go_wp2_with fail
       go_roundw
       case rel=>exact ⟨k+1,by omega,by go_num,by rw [HE.out];exact HW3.out⟩
       case measure=>simp [intOf];omega
      rw [I7] at hx HE;simp only [if_true] at HE;clear I7;by_cases hneg:t-8+(k:Int)-((t)-8)<0
      ·exact absurd hneg oQ
      obtain ⟨j,hj⟩:=Int.eq_ofNat_of_zero_le (show 0<=t-8+(k:Int)-((t)-8) by omega);have hj8:j<8:=oQ;rw [tJ,if_pos oQ,show t-8+(k:Int)-(t)+8=(j:Int) by omega,Int.toNat_natCast] at HE;rw [hj] at MH;subst MH;have cj:=vM HW3.out.out (j:=j) (by simpa using hj8);have fj:=HW3.out.out.free (1+j);clear hj hneg
      go_wp2_with fail
      go_roundw
      case rel=>exact ⟨k+1,by omega,by go_num,by rw [HE.out];exact HW3.out.vK hz1 j⟩
      case measure=>simp [intOf];omega
    obtain rfl:k=8:=oQ;have Yx:=Lib.hid HW.out;generalize mV (t) (pJ t f 8)=bs at HW2 Yx hlen hw;obtain ⟨a0,a1,a2,a3,a4,a5,a6,a7,rfl⟩:=eight hlen;obtain ⟨d0,d1,d2,d3,d4,d5,d6,d7,d8,df⟩:=hw.out.rC;clear hw c0 c1 c2 c3 c4 c5 c6 c7 c8 cf
    go_wp2_with fail
    refine (xP _ _ _ _ _ _ _ _ _ _ oQ oQ).mono ?_;rintro e w3 ⟨rfl,hb3⟩;have HW3:=Lib.hid (HW2.out.on hb3);clear hb3 d0 d1 d2 d3 d4 d5 d6 d7 d8 df;obtain ⟨j,hj⟩:=Int.eq_ofNat_of_zero_le (show 0<=id-((t)-8) by omega);have hj8:j<8:=oQ;rw [tJ,if_pos oQ,show id-(t)+8=(j:Int) by omega,Int.toNat_natCast] at Yx;have cj:=vM HW3.out.out (j:=j) (by simpa using hj8);have fj:=HW3.out.out.free (1+j);have HJ:=Lib.hid hj;have Yy:=Lib.hid (HW3.out.vK hz1 j);have hl2:([a0,a1,a2,a3,a4,a5,a6,a7].set j true).length=8:=by simp
    generalize [a0,a1,a2,a3,a4,a5,a6,a7].set j true=bs2 at Yx Yy hl2;obtain ⟨p0,p1,p2,p3,p4,p5,p6,p7,rfl⟩:=eight hl2;obtain ⟨d0,d1,d2,d3,d4,d5,d6,d7,d8,df⟩:=Yy.out.out.rC;obtain ⟨g0,g1,g2,g3,g4,g5,g6,g7,g8,gf⟩:=Yy.out.res.rC;clear hl2
    go_wp2_with fail
    refine bodyPost_ret (v:= .tuple #[.agg #[.int .i64 (t),.bool p0,.bool p1,.bool p2,.bool p3,.bool p4,.bool p5,.bool p6,.bool p7],.bool true,.int .i64 0]) (by simp [results,Tryz.results173,go_sem,g0,g1,g2,g3,g4,g5,g6,g7,g8]) rfl ?_;have hB:=Yy.out.below;exact ⟨by rw [Yx.out];rfl,by go_grown⟩
  have e:=HZ.out;rw [if_neg iQ,if_pos rfl] at e;subst e
  go_wp2_with fail
  refine bodyPost_ret (v:= .tuple #[.agg #[.int .i64 t,.bool b0,.bool b1,.bool b2,.bool b3,.bool b4,.bool b5,.bool b6,.bool b7],.bool false,.int .i64 0]) (by simp [results,Tryz.results173,go_sem,r0,r1,r2,r3,r4,r5,r6,r7,r8]) rfl ?_;have hB:=HB.out;exact ⟨rfl,by go_grown⟩
 have e:=HZ.out;rw [if_pos MG] at e;subst e
 go_wp2_with fail
 refine bodyPost_ret (v:= .tuple #[.agg #[.int .i64 0,.bool false,.bool false,.bool false,.bool false,.bool false,.bool false,.bool false,.bool false],.bool false,.int .i64 rk]) (by simp [results,Tryz.results173,go_sem,r0,r1,r2,r3,r4,r5,r6,r7,r8]) rfl ?_;have hB:=HB.out;exact ⟨rfl,by go_grown⟩
end Go.Proofs.YtcomidffhiilcaaGreatDoor
