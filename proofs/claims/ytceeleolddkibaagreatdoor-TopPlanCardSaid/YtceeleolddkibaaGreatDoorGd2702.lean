import Derived.Deep.DeepCutAuto
import Derived.Test.YtceeleolddkibaaGreatDoorGb49f5
set_option linter.all false
set_option maxRecDepth 100000
set_option maxHeartbeats 8000000
namespace Go.Proofs.YtceeleolddkibaaGreatDoor
open List Nat Go.Proofs.Tryz ChangeShapes WideShapes RowKit
def abr(d:UE)(q Pf node:Int)(w:World)(hn:Nw w):Calls prog 44 #[d.val,.int .i64 q,.int .i64 Pf,.int .i64 node] w (acJ w (za d q Pf node)):=by
 have HN:=Lib.hid hn;clear hn;have HC:=Lib.hid (λw h=>qm d q w h);have HR:Hid (za d q Pf node=if (aN d q).2≠0 then(mR,(aN d q).2)else if node<0\/4<node then(mR,2)else if (aN d q).1.Pf≠Pf then(mR,15)
 else if (aN d q).1.node=node then(mR,8)else if Pf=1048576 then(mR,14)else(d.set q.toNat ⟨node,Pf+1⟩,0)):=Lib.hid E
 have HZ:=Lib.hid (KD (d:=d) (q:=q));generalize za d q Pf node=r at*;generalize aN d q=a at*;obtain⟨⟨pn,pe⟩,z⟩:=a;obtain⟨⟨n0,e0⟩,⟨n1,e1⟩,⟨n2,e2⟩,⟨n3,e3⟩⟩:=d;unfold UE.val at*
 try simp only at HC⊢
 go_enter func44,Tryz.ntmps44
 go_wp2_with fail
 refine(HC.out _ (HN.out.on gQ)).mono ?_;rintro e w1 ⟨rfl,hb1⟩;have B0:=((iq.new w _ _).alloc _).below hb1 jQ;have B1:=(iq.new1 w _ _ _).below hb1 iQ;have hz0:w.heap.size<w1.heap.size:=B0.lt;have hz1:w.heap.size+1<w1.heap.size:=B1.lt;have HB1:Hid (Below w.heap.size w w1):=Lib.hid (Below.trans gQ (hb1.mono jQ))
 go_upto_region 2 with fail
 have C0:=B0.alloc (.cells #[.int .i64 pn,.int .i64 pe] 29);have C1:=B1.alloc (.cells #[.int .i64 pn,.int .i64 pe] 29);have C2:=iq.new w1 #[.int .i64 pn,.int .i64 pe] 29;have HB:Hid (Below w.heap.size w (w1.alloc (.cells #[.int .i64 pn,.int .i64 pe] 29))):=Lib.hid (HB1.out.alloc Y _);generalize hw2:w1.alloc (.cells #[.int .i64 pn,.int .i64 pe] 29)=w2 at C0 C1 C2 HB⊢;clear hw2 HB1;obtain⟨c0,c1,c2,c3,c4,c5,c6,c7,cf⟩:=C0.E5;obtain⟨r0,r1,r2,r3,r4,r5,r6,r7,rf⟩:=C1.E5;obtain⟨p0,p1,pf⟩:=C2.yK;have hne1:¬w1.heap.size=w.heap.size:=Y;have hne2:¬w1.heap.size=w.heap.size+1:=Y
 try simp only at HR HZ
 clear hb1;by_cases hz:z=0
 ·obtain⟨q0,q3,_,_,hpl⟩:=HZ.out hz;have hpe:pe<=1048576/\0<=pe:=by
   unfold Av at hpl;simp only at hpl;omega
  obtain⟨pe1,pe2⟩:=hpe;have HR2:=Lib.hid (HR.out.trans (ah (by simpa using hz)));subst hz;clear hpl HR;by_cases b1:node<0
  ·have e:=HR2.out;rw[aj Y]at e;subst e
   go_wp2_with fail
   refine bodyPost_ret (v:=.tuple #[.agg #[.int .i64 0,.int .i64 0,.int .i64 0,.int .i64 0,.int .i64 0,.int .i64 0,.int .i64 0,.int .i64 0],.int .i64 2]) (by simp[results,Tryz.results44,go_sem,r0,r1,r2,r3,r4,r5,r6,r7]) E ?_;have hB:=HB.out;exact⟨E,by go_grown⟩
  by_cases b2:5<=node
  ·have e:=HR2.out;rw[aj Y]at e;subst e
   go_wp2_with fail
   refine bodyPost_ret (v:=.tuple #[.agg #[.int .i64 0,.int .i64 0,.int .i64 0,.int .i64 0,.int .i64 0,.int .i64 0,.int .i64 0,.int .i64 0],.int .i64 2]) (by simp[results,Tryz.results44,go_sem,r0,r1,r2,r3,r4,r5,r6,r7]) E ?_;have hB:=HB.out;exact⟨E,by go_grown⟩
  have HR3:=Lib.hid (HR2.out.trans (ah Y));clear HR2;by_cases b3:pe=Pf
  ·have HR4:=Lib.hid (HR3.out.trans (ah (by simpa using b3)));subst b3;clear HR3;by_cases b4:pn=node
   ·have e:=HR4.out;rw[aj b4]at e;subst e;have t4:(pn==node)=true:=by simpa using b4
    clear b4
    go_wp2_with fail
    refine bodyPost_ret (v:=.tuple #[.agg #[.int .i64 0,.int .i64 0,.int .i64 0,.int .i64 0,.int .i64 0,.int .i64 0,.int .i64 0,.int .i64 0],.int .i64 8]) (by simp[results,Tryz.results44,go_sem,r0,r1,r2,r3,r4,r5,r6,r7]) E ?_;have hB:=HB.out;exact⟨E,by go_grown⟩
   have HR5:=Lib.hid (HR4.out.trans (ah b4));have t4:(pn==node)=false:=by simpa using b4
   clear b4 HR4;by_cases b5:pe=1048576
   ·have e:=HR5.out;rw[aj b5]at e;subst e;subst b5
    go_wp2_with fail
    refine bodyPost_ret (v:=.tuple #[.agg #[.int .i64 0,.int .i64 0,.int .i64 0,.int .i64 0,.int .i64 0,.int .i64 0,.int .i64 0,.int .i64 0],.int .i64 14]) (by simp[results,Tryz.results44,go_sem,r0,r1,r2,r3,r4,r5,r6,r7]) E ?_;have hB:=HB.out;exact⟨E,by go_grown⟩
   have e:=HR5.out;rw[ah b5]at e;subst e;have t5:(pe==1048576)=false:=by simpa using b5
   clear b5 HR5
   rcases(show q=0\/q=1\/q=2\/q=3 by omega)with rfl|rfl|rfl|rfl
   ·go_wp2_with fail
    refine bodyPost_ret (v:=.tuple #[.agg #[.int .i64 node,.int .i64 (pe+1),.int .i64 n1,.int .i64 e1,.int .i64 n2,.int .i64 e2,.int .i64 n3,.int .i64 e3],.int .i64 0]) (by simp[results,Tryz.results44,go_sem,r0,r1,r2,r3,r4,r5,r6,r7,c0,c1,c2,c3,c4,c5,c6,c7]) E ?_;have hB:=HB.out;exact⟨E,by go_grown⟩
   ·go_wp2_with fail
    refine bodyPost_ret (v:=.tuple #[.agg #[.int .i64 n0,.int .i64 e0,.int .i64 node,.int .i64 (pe+1),.int .i64 n2,.int .i64 e2,.int .i64 n3,.int .i64 e3],.int .i64 0]) (by simp[results,Tryz.results44,go_sem,r0,r1,r2,r3,r4,r5,r6,r7,c0,c1,c2,c3,c4,c5,c6,c7]) E ?_;have hB:=HB.out;exact⟨E,by go_grown⟩
   ·go_wp2_with fail
    refine bodyPost_ret (v:=.tuple #[.agg #[.int .i64 n0,.int .i64 e0,.int .i64 n1,.int .i64 e1,.int .i64 node,.int .i64 (pe+1),.int .i64 n3,.int .i64 e3],.int .i64 0]) (by simp[results,Tryz.results44,go_sem,r0,r1,r2,r3,r4,r5,r6,r7,c0,c1,c2,c3,c4,c5,c6,c7]) E ?_;have hB:=HB.out;exact⟨E,by go_grown⟩
   go_wp2_with fail
   refine bodyPost_ret (v:=.tuple #[.agg #[.int .i64 n0,.int .i64 e0,.int .i64 n1,.int .i64 e1,.int .i64 n2,.int .i64 e2,.int .i64 node,.int .i64 (pe+1)],.int .i64 0]) (by simp[results,Tryz.results44,go_sem,r0,r1,r2,r3,r4,r5,r6,r7,c0,c1,c2,c3,c4,c5,c6,c7]) E ?_;have hB:=HB.out;exact⟨E,by go_grown⟩
  have e:=HR3.out;rw[aj (by simpa using b3)]at e;subst e;have t3:(pe==Pf)=false:=by simpa using b3
  have t3':(pe != Pf)=true:=by simpa using b3
  clear b3
  go_wp2_with fail
  refine bodyPost_ret (v:=.tuple #[.agg #[.int .i64 0,.int .i64 0,.int .i64 0,.int .i64 0,.int .i64 0,.int .i64 0,.int .i64 0,.int .i64 0],.int .i64 15]) (by simp[results,Tryz.results44,go_sem,r0,r1,r2,r3,r4,r5,r6,r7]) E ?_;have hB:=HB.out;exact⟨E,by go_grown⟩
 have e:=HR.out;rw[aj hz]at e;subst e;have t0:(z==0)=false:=by simpa using hz
 have t0':(z != 0)=true:=by simpa using hz
 clear hz
 go_wp2_with fail
 refine bodyPost_ret (v:=.tuple #[.agg #[.int .i64 0,.int .i64 0,.int .i64 0,.int .i64 0,.int .i64 0,.int .i64 0,.int .i64 0,.int .i64 0],.int .i64 z]) (by simp[results,Tryz.results44,go_sem,r0,r1,r2,r3,r4,r5,r6,r7]) E ?_;have hB:=HB.out;exact⟨E,by go_grown⟩
end Go.Proofs.YtceeleolddkibaaGreatDoor
