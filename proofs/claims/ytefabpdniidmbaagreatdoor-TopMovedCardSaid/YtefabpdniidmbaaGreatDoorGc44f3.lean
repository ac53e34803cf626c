import Derived.Deep.DeepCutAuto
import Derived.Deep.CutRange
import Derived.Test.YtefabpdniidmbaaGreatDoorG949d7
set_option linter.all false
set_option maxRecDepth 100000
set_option maxHeartbeats 8000000
namespace Go.Proofs.YtefabpdniidmbaaGreatDoor
open List Nat Go.Proofs.Tryz ChangeShapes WideShapes RowKit
def aiC{x:ny}{id:Int}(h:(tL x id).2=0):x.top-8<=id:=by
 have I:=Jt h;unfold tL at h;rw[ah (by simp[I.1]),ah Y]at h;by_cases h1:x.top<=id
 ·omega
 rw[ah h1]at h;by_cases J:id<x.top-8
 ·rw[au J]at h
  cases h
 omega
def Bh(t:Int)(b0 b1 b2 b3 b4 b5 b6 b7:Bool)(w:World)(h:0<=t)(h1:t<=1073741825):
 Calls prog 133 #[.agg #[.int .i64 t,.bool b0,.bool b1,.bool b2,.bool b3,.bool b4,.bool b5,.bool b6,.bool b7]] w λe w'=>e=.returned (.int .i64 (t-8))/\Below w.heap.size w w':=
 BJ ⟨t,b0,b1,b2,b3,b4,b5,b6,b7⟩ w h h1
def VJ(T t:Int)(f:Nat->Bool)(k:Nat):nS T (kX t f (k+1))=if f k=true then rO (nS T (kX t f k)) (t-8+k-T+8)else nS T (kX t f k):=by
 rw[show kX t f (k+1)=if f k=true then kX t f k++[t-8+k]else kX t f k from E]
 split
 ·rw[J2]
 rfl
structure TB (w:World)(T:Int)(bs:List Bool)(row:Array Value)(b2:Nat)(wr:World):Prop where
 below:Below w.heap.size w wr
 arg:iM wr w.heap.size row 180
 res:iM wr (w.heap.size+1) #[.int .i64 0,.bool false,.bool false,.bool false,.bool false,.bool false,.bool false,.bool false,.bool false] 180
 out:iM wr b2 (zK T bs) 180
def yP{w:World}{b:Nat}{T:Int}{bs:List Bool}{ty:TypeId}(h:iM w b (zK T bs) ty){j:Nat}(I:j<bs.length):w.cell? ⟨b,1+j,none⟩=some (.bool (bs.getD j false)):=
 h.cell (by rw[qU];simp[zK,I])
def aap(T:Int)(bs:List Bool)(j:Nat):(zK T bs).setIfInBounds (1+j) (.bool true)=zK T (bs.set j true):=by
 simp[zK,Nat.add_comm 1 j,map_set]
def TB.on{w wr J:World}{T:Int}{bs:List Bool}{row:Array Value}{b2:Nat}(h:TB w T bs row b2 wr)(I:Below wr.heap.size wr J):TB w T bs row b2 J:=
 ⟨h.below.trans (I.mono h.below.size),h.arg.on I,h.res.on I,h.out.on I⟩
def TB.yO{w wr:World}{T:Int}{bs:List Bool}{row:Array Value}{b2:Nat}(h:TB w T bs row b2 wr)(I:w.heap.size+1<b2)(j:Nat):TB w T (bs.set j true) row b2 (wr.setCell ⟨b2,1+j,none⟩ (.bool true)):=
 ⟨h.below.setCell jQ _,h.arg.other _ jQ _,h.res.other _ jQ _,(h.out.yO _ _).cast (aap _ _ _)⟩
def J3(x:ny)(id:Int)(w:World):Calls prog 127 #[x.val,.int .i64 id] w (adF w (kD x id)):=by
 have HS:=Lib.hid (Xy x id);have HT:=Lib.hid (vF (x:=x));have HSZ:=Lib.hid (Jt (x:=x) (id:=id));have HSL:=Lib.hid (aiC (x:=x) (id:=id));have HX:=Lib.hid (Qs x);have HZ0:Hid (∀z,z=kD x id->z=if (tL x id).2≠0 then(Dw,false,(tL x id).2)else if (tL x id).1=true then(x,false,0)else(EW x id,true,0)):=Lib.hid (λz h=>h);generalize hz:kD x id=z;have HZ:=Lib.hid (HZ0.out z hz.symm);clear hz HZ0;have HW:Hid (EW x id=agD (max x.top (id+1)) (rO (nS (max x.top (id+1)) (kX x.top x.at 8)) (id-max x.top (id+1)+8))):=by
  unfold Hid EW;rw[J2]
 generalize EW x id=ow at HZ HW;generalize eU x=wf at HT HSZ;generalize tL x id=r at HS HSZ HSL HZ;have hat:=Lib.hid (E:x.at=x.at);generalize x.at=f at HX HW hat;clear hat;obtain⟨rb,rk⟩:=r;obtain⟨t,b0,b1,b2,b3,b4,b5,b6,b7⟩:=x;unfold ny.val at*;simp only at HT HSZ HSL HS HZ HX HW⊢
 go_enter func127,ntmps127
 go_wp2_with fail
 refine(HS.out _).mono ?_;rintro e w1 ⟨rfl,hb1⟩;have RA:=((iM.new w _ _).alloc _).below hb1 jQ;have RB:=(iM.new1 w _ _ _).below hb1 iQ;obtain⟨c0,c1,c2,c3,c4,c5,c6,c7,c8,cf⟩:=RA.uU;obtain⟨r0,r1,r2,r3,r4,r5,r6,r7,r8,rf⟩:=RB.uU;have hsz:w.heap.size+2<=w1.heap.size:=by have:=hb1.size;simp at this;omega
 have HB:Hid (Below w.heap.size w w1):=Lib.hid ((((Below.refl _ w).alloc aB _).alloc iQ _).trans (hb1.mono jQ));clear hb1;by_cases Qu:rk=0
 ·obtain⟨hwf,i0',i1'⟩:=HSZ.out Qu;have hlow:=HSL.out Qu;subst Qu;obtain⟨t0,t1⟩:=HT.out hwf
  cases rb
  ·have e:=HZ.out;rw[ah iQ,ah iQ]at e;subst e;have hz0:w.heap.size<w1.heap.size:=Y;have hz1:w.heap.size+1<w1.heap.size:=Y;by_cases hT:t<id+1
   ·have hT2:t<=id:=Y;rw[show max t (id+1)=id+1 by omega]at HW;have hB:=HB.out
    go_wp2_with fail
    try simp only[show max t (id+1)=id+1 by omega]
    go_loopw [33] (λi wr=> ∃k:Nat,k<=8/\i=.int .i64 k/\TB w (id+1) (nS (id+1) (kX t f k)) #[.int .i64 t,.bool b0,.bool b1,.bool b2,.bool b3,.bool b4,.bool b5,.bool b6,.bool b7] w1.heap.size wr) (λi _=>8-(intOf i).toNat)
    case atStart=>exact⟨0,by omega,E,⟨hB.alloc Y _,RA.alloc _,RB.alloc _,iM.new w1 _ _⟩⟩
    case round=>
     obtain⟨k,hk,rfl,hw⟩:=hrel;have HW2:=Lib.hid hw;have hlen:=Ny (id+1) (kX t f k);have hzr:w1.heap.size<wr.heap.size:=hw.out.lt;obtain⟨c0,c1,c2,c3,c4,c5,c6,c7,c8,cf⟩:=hw.arg.uU;by_cases hlt:k<8
     ·have HE:=Lib.hid (VJ (id+1) t f k);have hx:=HX.out k hlt;generalize nS (id+1) (kX t f k)=bs at HW2 HE hlen hw;obtain⟨a0,a1,a2,a3,a4,a5,a6,a7,rfl⟩:=eight hlen;obtain⟨d0,d1,d2,d3,d4,d5,d6,d7,d8,df⟩:=hw.out.uU;clear hw
      go_upto_region 10 with fail
      go_cut [12,33]from 33 to 52 (λs12 s33 wx=>s12=.int .i64 (t-8+k-((id+1)-8))/\s33=.int .i64 k/\Below wr.heap.size wr wx)
      case first=>
       go_region_with (go_at_call 133;refine(Bh _ _ _ _ _ _ _ _ _ _ Y Y).mono ?_;rintro e w2 ⟨rfl,hb2⟩;have hbx:Below wr.heap.size wr w2:=(by first|exact⟨hb2.os,hb2.tape,hb2.output,hb2.size,hb2.block⟩|exact Below.trans hbx (hb2.mono hbx.size));obtain⟨hc2,hf2⟩:=EU hbx)
       all_goals (go_wp2_with fail;go_meet;exact⟨by rw[IntWalk.i64_in (t-8+(k:Int)) Y,IntWalk.i64_in _ Y],E,hbx⟩)
      case rest=>
       obtain⟨Qv,rfl,hbx⟩:=hcut;have HW3:=Lib.hid (HW2.out.on hbx);clear HW2 hbx c0 c1 c2 c3 c4 c5 c6 c7 c8 cf d0 d1 d2 d3 d4 d5 d6 d7 d8 df
       cases LV:f k
       ·rw[LV]at hx HE;simp only[Bool.false_eq_true,if_false]at HE;subst Qv;clear LV
        go_wp2_with fail
        go_roundw
        case rel=>exact⟨k+1,by omega,by go_num,by rw[HE.out];exact HW3.out⟩
        case measure=>simp[intOf];omega
       rw[LV]at hx HE;simp only[if_true]at HE;clear LV;by_cases hneg:t-8+(k:Int)-((id+1)-8)<0
       ·rw[rO,ah Y]at HE;subst Qv
        go_wp2_with fail
        go_roundw
        case rel=>exact⟨k+1,by omega,by go_num,by rw[HE.out];exact HW3.out⟩
        case measure=>simp[intOf];omega
       obtain⟨j,hj⟩:=pQ (show 0<=t-8+(k:Int)-((id+1)-8) by omega);have hj8:j<8:=Y;rw[rO,au Y,show t-8+(k:Int)-(id+1)+8=(j:Int) by omega,fB]at HE;rw[hj]at Qv;subst Qv;have cj:=yP HW3.out.out (j:=j) (by simpa using hj8);have fj:=HW3.out.out.free (1+j);clear hj hneg
       go_wp2_with fail
       go_roundw
       case rel=>exact⟨k+1,by omega,by go_num,by rw[HE.out];exact HW3.out.yO hz1 j⟩
       case measure=>simp[intOf];omega
     obtain rfl:k=8:=Y;have HW4:=Lib.hid HW.out;generalize nS (id+1) (kX t f 8)=bs at HW2 HW4 hlen hw;obtain⟨a0,a1,a2,a3,a4,a5,a6,a7,rfl⟩:=eight hlen;obtain⟨d0,d1,d2,d3,d4,d5,d6,d7,d8,df⟩:=hw.out.uU;clear hw c0 c1 c2 c3 c4 c5 c6 c7 c8 cf
     go_wp2_with fail
     refine(Bh _ _ _ _ _ _ _ _ _ _ Y Y).mono ?_;rintro e w3 ⟨rfl,hb3⟩;have HW3:=Lib.hid (HW2.out.on hb3);clear hb3 d0 d1 d2 d3 d4 d5 d6 d7 d8 df;obtain⟨j,hj⟩:=pQ (show 0<=id-((id+1)-8) by omega);have hj8:j<8:=Y;rw[rO,au Y,show id-(id+1)+8=(j:Int) by omega,fB]at HW4;have cj:=yP HW3.out.out (j:=j) (by simpa using hj8);have fj:=HW3.out.out.free (1+j);have HJ:=Lib.hid hj;have HW5:=Lib.hid (HW3.out.yO hz1 j);have hl2:([a0,a1,a2,a3,a4,a5,a6,a7].set j true).length=8:=by simp
     generalize [a0,a1,a2,a3,a4,a5,a6,a7].set j true=bs2 at HW4 HW5 hl2;obtain⟨p0,p1,p2,p3,p4,p5,p6,p7,rfl⟩:=eight hl2;obtain⟨d0,d1,d2,d3,d4,d5,d6,d7,d8,df⟩:=HW5.out.out.uU;obtain⟨g0,g1,g2,g3,g4,g5,g6,g7,g8,gf⟩:=HW5.out.res.uU;clear hl2
     go_wp2_with fail
     refine bodyPost_ret (v:=.tuple #[.agg #[.int .i64 (id+1),.bool p0,.bool p1,.bool p2,.bool p3,.bool p4,.bool p5,.bool p6,.bool p7],.bool true,.int .i64 0]) (by simp[results,results127,go_sem,g0,g1,g2,g3,g4,g5,g6,g7,g8]) E ?_;have hB:=HW5.out.below;exact⟨by rw[HW4.out];rfl,by go_grown⟩
   have hT2:¬t<=id:=Y;rw[show max t (id+1)=t by omega]at HW;have hB:=HB.out
   go_wp2_with fail
   try simp only[show max t (id+1)=t by omega]
   go_loopw [33] (λi wr=> ∃k:Nat,k<=8/\i=.int .i64 k/\TB w (t) (nS (t) (kX t f k)) #[.int .i64 t,.bool b0,.bool b1,.bool b2,.bool b3,.bool b4,.bool b5,.bool b6,.bool b7] w1.heap.size wr) (λi _=>8-(intOf i).toNat)
   case atStart=>exact⟨0,by omega,E,⟨hB.alloc Y _,RA.alloc _,RB.alloc _,iM.new w1 _ _⟩⟩
   case round=>
    obtain⟨k,hk,rfl,hw⟩:=hrel;have HW2:=Lib.hid hw;have hlen:=Ny (t) (kX t f k);have hzr:w1.heap.size<wr.heap.size:=hw.out.lt;obtain⟨c0,c1,c2,c3,c4,c5,c6,c7,c8,cf⟩:=hw.arg.uU;by_cases hlt:k<8
    ·have HE:=Lib.hid (VJ (t) t f k);have hx:=HX.out k hlt;generalize nS (t) (kX t f k)=bs at HW2 HE hlen hw;obtain⟨a0,a1,a2,a3,a4,a5,a6,a7,rfl⟩:=eight hlen;obtain⟨d0,d1,d2,d3,d4,d5,d6,d7,d8,df⟩:=hw.out.uU;clear hw
     go_upto_region 10 with fail
     go_cut [12,33]from 33 to 52 (λs12 s33 wx=>s12=.int .i64 (t-8+k-((t)-8))/\s33=.int .i64 k/\Below wr.heap.size wr wx)
     case first=>
      go_region_with (go_at_call 133;refine(Bh _ _ _ _ _ _ _ _ _ _ Y Y).mono ?_;rintro e w2 ⟨rfl,hb2⟩;have hbx:Below wr.heap.size wr w2:=(by first|exact⟨hb2.os,hb2.tape,hb2.output,hb2.size,hb2.block⟩|exact Below.trans hbx (hb2.mono hbx.size));obtain⟨hc2,hf2⟩:=EU hbx)
      all_goals (go_wp2_with fail;go_meet;exact⟨by rw[IntWalk.i64_in (t-8+(k:Int)) Y,IntWalk.i64_in _ Y],E,hbx⟩)
     case rest=>
      obtain⟨Qv,rfl,hbx⟩:=hcut;have HW3:=Lib.hid (HW2.out.on hbx);clear HW2 hbx c0 c1 c2 c3 c4 c5 c6 c7 c8 cf d0 d1 d2 d3 d4 d5 d6 d7 d8 df
      cases LV:f k
      ·rw[LV]at hx HE;simp only[Bool.false_eq_true,if_false]at HE;subst Qv;clear LV
       go_wp2_with fail
       go_roundw
       case rel=>exact⟨k+1,by omega,by go_num,by rw[HE.out];exact HW3.out⟩
       case measure=>simp[intOf];omega
      rw[LV]at hx HE;simp only[if_true]at HE;clear LV;by_cases hneg:t-8+(k:Int)-((t)-8)<0
      ·exact av hneg Y
      obtain⟨j,hj⟩:=pQ (show 0<=t-8+(k:Int)-((t)-8) by omega);have hj8:j<8:=Y;rw[rO,au Y,show t-8+(k:Int)-(t)+8=(j:Int) by omega,fB]at HE;rw[hj]at Qv;subst Qv;have cj:=yP HW3.out.out (j:=j) (by simpa using hj8);have fj:=HW3.out.out.free (1+j);clear hj hneg
      go_wp2_with fail
      go_roundw
      case rel=>exact⟨k+1,by omega,by go_num,by rw[HE.out];exact HW3.out.yO hz1 j⟩
      case measure=>simp[intOf];omega
    obtain rfl:k=8:=Y;have HW4:=Lib.hid HW.out;generalize nS (t) (kX t f 8)=bs at HW2 HW4 hlen hw;obtain⟨a0,a1,a2,a3,a4,a5,a6,a7,rfl⟩:=eight hlen;obtain⟨d0,d1,d2,d3,d4,d5,d6,d7,d8,df⟩:=hw.out.uU;clear hw c0 c1 c2 c3 c4 c5 c6 c7 c8 cf
    go_wp2_with fail
    refine(Bh _ _ _ _ _ _ _ _ _ _ Y Y).mono ?_;rintro e w3 ⟨rfl,hb3⟩;have HW3:=Lib.hid (HW2.out.on hb3);clear hb3 d0 d1 d2 d3 d4 d5 d6 d7 d8 df;obtain⟨j,hj⟩:=pQ (show 0<=id-((t)-8) by omega);have hj8:j<8:=Y;rw[rO,au Y,show id-(t)+8=(j:Int) by omega,fB]at HW4;have cj:=yP HW3.out.out (j:=j) (by simpa using hj8);have fj:=HW3.out.out.free (1+j);have HJ:=Lib.hid hj;have HW5:=Lib.hid (HW3.out.yO hz1 j);have hl2:([a0,a1,a2,a3,a4,a5,a6,a7].set j true).length=8:=by simp
    generalize [a0,a1,a2,a3,a4,a5,a6,a7].set j true=bs2 at HW4 HW5 hl2;obtain⟨p0,p1,p2,p3,p4,p5,p6,p7,rfl⟩:=eight hl2;obtain⟨d0,d1,d2,d3,d4,d5,d6,d7,d8,df⟩:=HW5.out.out.uU;obtain⟨g0,g1,g2,g3,g4,g5,g6,g7,g8,gf⟩:=HW5.out.res.uU;clear hl2
    go_wp2_with fail
    refine bodyPost_ret (v:=.tuple #[.agg #[.int .i64 (t),.bool p0,.bool p1,.bool p2,.bool p3,.bool p4,.bool p5,.bool p6,.bool p7],.bool true,.int .i64 0]) (by simp[results,results127,go_sem,g0,g1,g2,g3,g4,g5,g6,g7,g8]) E ?_;have hB:=HW5.out.below;exact⟨by rw[HW4.out];rfl,by go_grown⟩
  have e:=HZ.out;rw[ah iQ,au E]at e;subst e
  go_wp2_with fail
  refine bodyPost_ret (v:=.tuple #[.agg #[.int .i64 t,.bool b0,.bool b1,.bool b2,.bool b3,.bool b4,.bool b5,.bool b6,.bool b7],.bool false,.int .i64 0]) (by simp[results,results127,go_sem,r0,r1,r2,r3,r4,r5,r6,r7,r8]) E ?_;have hB:=HB.out;exact⟨E,by go_grown⟩
 have e:=HZ.out;rw[au Qu]at e;subst e
 go_wp2_with fail
 refine bodyPost_ret (v:=.tuple #[.agg #[.int .i64 0,.bool false,.bool false,.bool false,.bool false,.bool false,.bool false,.bool false,.bool false],.bool false,.int .i64 rk]) (by simp[results,results127,go_sem,r0,r1,r2,r3,r4,r5,r6,r7,r8]) E ?_;have hB:=HB.out;exact⟨E,by go_grown⟩
end Go.Proofs.YtefabpdniidmbaaGreatDoor
