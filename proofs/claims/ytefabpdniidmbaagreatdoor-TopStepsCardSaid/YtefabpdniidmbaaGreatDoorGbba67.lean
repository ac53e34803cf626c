import Derived.Test.YtefabpdniidmbaaGreatDoorG1cff8
set_option linter.all false
set_option maxRecDepth 100000
set_option maxHeartbeats 8000000
namespace Go.Proofs.YtefabpdniidmbaaGreatDoor
open List Nat Go.Proofs.Tryz ChangeShapes WideShapes RowKit
def Vw(d:QK)(q node:Int)(w:World)(hn:Nw w):Calls prog 42 #[d.val,.int .i64 q,.int .i64 node] w (ZV w (r9 d q node)):=by
 have HN:=Lib.hid hn;clear hn;have HC:=Lib.hid (λw h=>Oz d q w h);have HR:Hid (r9 d q node=if (q9 d q).2≠0 then(kY,(q9 d q).2)else if node<0\/4<node then(kY,2)else if (q9 d q).1≠nowhere then(kY,8)else(d.set q.toNat ⟨node,1⟩,0)):=Lib.hid E;have HZ:=Lib.hid (acd (d:=d) (q:=q));generalize r9 d q node=r at*;generalize q9 d q=a at*;obtain⟨⟨pn,pe⟩,z⟩:=a;have hq:=Yq ⟨pn,pe⟩ nowhere;unfold nowhere at hq;simp only at hq;obtain⟨⟨n0,e0⟩,⟨n1,e1⟩,⟨n2,e2⟩,⟨n3,e3⟩⟩:=d;unfold QK.val at*
 try simp only at HC⊢
 go_enter func42,ntmps42
 go_wp2_with fail
 refine(HC.out _ (HN.out.on gQ)).mono ?_;rintro e w1 ⟨rfl,hb1⟩;have B0:=((gB.new w _ _).alloc _).below hb1 jQ;have B1:=(gB.new1 w _ _ _).below hb1 iQ;have hz0:w.heap.size<w1.heap.size:=B0.lt;have hz1:w.heap.size+1<w1.heap.size:=B1.lt;have HB1:Hid (Below w.heap.size w w1):=Lib.hid (Below.trans gQ (hb1.mono jQ))
 go_upto_region 2 with fail
 have C0:=B0.alloc (.cells #[.int .i64 pn,.int .i64 pe] 27);have C1:=B1.alloc (.cells #[.int .i64 pn,.int .i64 pe] 27);have C2:=gB.new w1 #[.int .i64 pn,.int .i64 pe] 27;have HB:Hid (Below w.heap.size w (w1.alloc (.cells #[.int .i64 pn,.int .i64 pe] 27))):=Lib.hid (HB1.out.alloc Y _);generalize hw2:w1.alloc (.cells #[.int .i64 pn,.int .i64 pe] 27)=w2 at C0 C1 C2 HB⊢;clear hw2 HB1;obtain⟨c0,c1,c2,c3,c4,c5,c6,c7,cf⟩:=C0.CF;obtain⟨r0,r1,r2,r3,r4,r5,r6,r7,rf⟩:=C1.CF;obtain⟨p0,p1,pf⟩:=C2.vO;have hne1:¬w1.heap.size=w.heap.size:=Y;have hne2:¬w1.heap.size=w.heap.size+1:=Y
 try simp only at HR HZ
 clear hb1;obtain⟨g0,g1,g2⟩:=HN.out.on HB.out;by_cases hz:z=0
 ·obtain⟨q0,q3⟩:=HZ.out hz;have HR2:=Lib.hid (HR.out.trans (if_neg (by simpa using hz)));subst hz;clear HR;by_cases b1:node<0
  ·have e:=HR2.out;rw[if_pos Y]at e;subst e;clear hq
   go_wp2_with fail
   refine bodyPost_ret (v:=.tuple #[.agg #[.int .i64 0,.int .i64 0,.int .i64 0,.int .i64 0,.int .i64 0,.int .i64 0,.int .i64 0,.int .i64 0],.int .i64 2]) (by simp[results,results42,go_sem,r0,r1,r2,r3,r4,r5,r6,r7]) E ?_;have hB:=HB.out;exact⟨E,by go_grown⟩
  by_cases b2:5<=node
  ·have e:=HR2.out;rw[if_pos Y]at e;subst e;clear hq
   go_wp2_with fail
   refine bodyPost_ret (v:=.tuple #[.agg #[.int .i64 0,.int .i64 0,.int .i64 0,.int .i64 0,.int .i64 0,.int .i64 0,.int .i64 0,.int .i64 0],.int .i64 2]) (by simp[results,results42,go_sem,r0,r1,r2,r3,r4,r5,r6,r7]) E ?_;have hB:=HB.out;exact⟨E,by go_grown⟩
  have HR3:=Lib.hid (HR2.out.trans (if_neg Y));clear HR2;by_cases b3:(⟨pn,pe⟩:Pl)=nowhere
  ·have e:=HR3.out;rw[if_neg (by simpa using b3)]at e;subst e;have hd:decide ((⟨pn,pe⟩:Pl)=⟨-1,0⟩)=true:=by simpa[nowhere]using b3
   rw[hd]at hq;clear b3 hd HR3
   rcases(show q=0\/q=1\/q=2\/q=3 by omega)with rfl|rfl|rfl|rfl
   ·go_wp2_with fail
    refine bodyPost_ret (v:=.tuple #[.agg #[.int .i64 node,.int .i64 1,.int .i64 n1,.int .i64 e1,.int .i64 n2,.int .i64 e2,.int .i64 n3,.int .i64 e3],.int .i64 0]) (by simp[results,results42,go_sem,r0,r1,r2,r3,r4,r5,r6,r7,c0,c1,c2,c3,c4,c5,c6,c7]) E ?_;have hB:=HB.out;exact⟨E,by go_grown⟩
   ·go_wp2_with fail
    refine bodyPost_ret (v:=.tuple #[.agg #[.int .i64 n0,.int .i64 e0,.int .i64 node,.int .i64 1,.int .i64 n2,.int .i64 e2,.int .i64 n3,.int .i64 e3],.int .i64 0]) (by simp[results,results42,go_sem,r0,r1,r2,r3,r4,r5,r6,r7,c0,c1,c2,c3,c4,c5,c6,c7]) E ?_;have hB:=HB.out;exact⟨E,by go_grown⟩
   ·go_wp2_with fail
    refine bodyPost_ret (v:=.tuple #[.agg #[.int .i64 n0,.int .i64 e0,.int .i64 n1,.int .i64 e1,.int .i64 node,.int .i64 1,.int .i64 n3,.int .i64 e3],.int .i64 0]) (by simp[results,results42,go_sem,r0,r1,r2,r3,r4,r5,r6,r7,c0,c1,c2,c3,c4,c5,c6,c7]) E ?_;have hB:=HB.out;exact⟨E,by go_grown⟩
   go_wp2_with fail
   refine bodyPost_ret (v:=.tuple #[.agg #[.int .i64 n0,.int .i64 e0,.int .i64 n1,.int .i64 e1,.int .i64 n2,.int .i64 e2,.int .i64 node,.int .i64 1],.int .i64 0]) (by simp[results,results42,go_sem,r0,r1,r2,r3,r4,r5,r6,r7,c0,c1,c2,c3,c4,c5,c6,c7]) E ?_;have hB:=HB.out;exact⟨E,by go_grown⟩
  have e:=HR3.out;rw[if_pos b3]at e;subst e;have hd:decide ((⟨pn,pe⟩:Pl)=⟨-1,0⟩)=false:=by simpa[nowhere]using b3
  rw[hd]at hq;clear b3 hd HR3
  go_wp2_with fail
  refine bodyPost_ret (v:=.tuple #[.agg #[.int .i64 0,.int .i64 0,.int .i64 0,.int .i64 0,.int .i64 0,.int .i64 0,.int .i64 0,.int .i64 0],.int .i64 8]) (by simp[results,results42,go_sem,r0,r1,r2,r3,r4,r5,r6,r7]) E ?_;have hB:=HB.out;exact⟨E,by go_grown⟩
 have e:=HR.out;rw[if_pos hz]at e;subst e;have t0:(z==0)=false:=by simpa using hz
 have t0':(z != 0)=true:=by simpa using hz
 clear hz hq
 go_wp2_with fail
 refine bodyPost_ret (v:=.tuple #[.agg #[.int .i64 0,.int .i64 0,.int .i64 0,.int .i64 0,.int .i64 0,.int .i64 0,.int .i64 0,.int .i64 0],.int .i64 z]) (by simp[results,results42,go_sem,r0,r1,r2,r3,r4,r5,r6,r7]) E ?_;have hB:=HB.out;exact⟨E,by go_grown⟩
end Go.Proofs.YtefabpdniidmbaaGreatDoor
