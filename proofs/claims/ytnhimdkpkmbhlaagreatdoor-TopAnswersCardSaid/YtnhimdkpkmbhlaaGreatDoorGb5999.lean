import Derived.Deep.DeepCutAuto
import Derived.Test.YtnhimdkpkmbhlaaGreatDoorG9daf5
set_option maxRecDepth 100000
set_option maxHeartbeats 8000000
set_option linter.unusedSimpArgs false
set_option linter.unusedVariables false
namespace Go.Proofs.YtnhimdkpkmbhlaaGreatDoor
open ChangeShapes WideShapes RowKit
theorem QB (d:Dir) (q node:Int) (w:World) (hn:Nw w):Calls Tryz.prog 68 #[d.val,.int .i64 q,.int .i64 node] w (VJ w (vU d q node)):=by
 have HN:=Lib.hid hn;clear hn;have HC:=Lib.hid (λw h=>La d q w h);have HR:Hid (vU d q node=if (p9 d q).2≠0 then (ko,(p9 d q).2) else if node<0\/4<node then (ko,2) else if (p9 d q).1≠nowhere then (ko,8) else (d.set q.toNat ⟨node,1⟩,0)):=Lib.hid rfl;have HZ:=Lib.hid (Xq (d:=d) (q:=q));generalize vU d q node=r at*;generalize p9 d q=a at*;obtain ⟨⟨pn,pe⟩,z⟩:=a;have hq:=Ur ⟨pn,pe⟩ nowhere;unfold nowhere at hq;simp only at hq;obtain ⟨⟨n0,e0⟩,⟨n1,e1⟩,⟨n2,e2⟩,⟨n3,e3⟩⟩:=d;unfold Dir.val at*
 try simp only at HC⊢
 go_enter Tryz.func68,Tryz.ntmps68
 go_wp2_with fail
 refine (HC.out _ (HN.out.on (by go_grown))).mono ?_;rintro e w1 ⟨rfl,hb1⟩;have B0:=((fK.new w _ _).alloc _).below hb1 (by simp;omega);have B1:=(fK.new1 w _ _ _).below hb1 (by simp);have hz0:w.heap.size<w1.heap.size:=B0.lt;have hz1:w.heap.size+1<w1.heap.size:=B1.lt;have HB1:Hid (Below w.heap.size w w1):=Lib.hid (Below.trans (by go_grown) (hb1.mono (by simp;omega)))
 go_upto_region 2 with fail
 have C0:=B0.alloc (.cells #[.int .i64 pn,.int .i64 pe] 27);have C1:=B1.alloc (.cells #[.int .i64 pn,.int .i64 pe] 27);have C2:=fK.new w1 #[.int .i64 pn,.int .i64 pe] 27;have HB:Hid (Below w.heap.size w (w1.alloc (.cells #[.int .i64 pn,.int .i64 pe] 27))):=Lib.hid (HB1.out.alloc (by omega) _);generalize hw2:w1.alloc (.cells #[.int .i64 pn,.int .i64 pe] 27)=w2 at C0 C1 C2 HB⊢;clear hw2 HB1;obtain ⟨c0,c1,c2,c3,c4,c5,c6,c7,cf⟩:=C0.Ar;obtain ⟨r0,r1,r2,r3,r4,r5,r6,r7,rf⟩:=C1.Ar;obtain ⟨p0,p1,pf⟩:=C2.uj;have hne1: ¬ w1.heap.size=w.heap.size:=by omega
 have hne2: ¬ w1.heap.size=w.heap.size+1:=by omega
 try simp only at HR HZ
 clear hb1;obtain ⟨g0,g1,g2⟩:=HN.out.on HB.out;by_cases hz:z=0
 ·obtain ⟨q0,q3⟩:=HZ.out hz;have HR2:=Lib.hid (HR.out.trans (if_neg (by simpa using hz)));subst hz;clear HR;by_cases b1:node<0
  ·have e:=HR2.out;rw [if_pos (by omega)] at e;subst e;clear hq
   go_wp2_with fail
   refine bodyPost_ret (v:= .tuple #[.agg #[.int .i64 0,.int .i64 0,.int .i64 0,.int .i64 0,.int .i64 0,.int .i64 0,.int .i64 0,.int .i64 0],.int .i64 2]) (by simp [results,Tryz.results68,go_sem,r0,r1,r2,r3,r4,r5,r6,r7]) rfl ?_;have hB:=HB.out;exact ⟨rfl,by go_grown⟩
  by_cases b2:5<=node
  ·have e:=HR2.out;rw [if_pos (by omega)] at e;subst e;clear hq
   go_wp2_with fail
   refine bodyPost_ret (v:= .tuple #[.agg #[.int .i64 0,.int .i64 0,.int .i64 0,.int .i64 0,.int .i64 0,.int .i64 0,.int .i64 0,.int .i64 0],.int .i64 2]) (by simp [results,Tryz.results68,go_sem,r0,r1,r2,r3,r4,r5,r6,r7]) rfl ?_;have hB:=HB.out;exact ⟨rfl,by go_grown⟩
  have HR3:=Lib.hid (HR2.out.trans (if_neg (by omega)));clear HR2;by_cases b3:(⟨pn,pe⟩:Pl)=nowhere
  ·have e:=HR3.out;rw [if_neg (by simpa using b3)] at e;subst e;have hd:decide ((⟨pn,pe⟩:Pl)=⟨-1,0⟩)=true:=by simpa [nowhere] using b3
   rw [hd] at hq;clear b3 hd HR3
   rcases (show q=0\/q=1\/q=2\/q=3 by omega) with rfl | rfl | rfl | rfl
   ·go_wp2_with fail
    refine bodyPost_ret (v:= .tuple #[.agg #[.int .i64 node,.int .i64 1,.int .i64 n1,.int .i64 e1,.int .i64 n2,.int .i64 e2,.int .i64 n3,.int .i64 e3],.int .i64 0]) (by simp [results,Tryz.results68,go_sem,r0,r1,r2,r3,r4,r5,r6,r7,c0,c1,c2,c3,c4,c5,c6,c7]) rfl ?_;have hB:=HB.out;exact ⟨rfl,by go_grown⟩
   ·go_wp2_with fail
    refine bodyPost_ret (v:= .tuple #[.agg #[.int .i64 n0,.int .i64 e0,.int .i64 node,.int .i64 1,.int .i64 n2,.int .i64 e2,.int .i64 n3,.int .i64 e3],.int .i64 0]) (by simp [results,Tryz.results68,go_sem,r0,r1,r2,r3,r4,r5,r6,r7,c0,c1,c2,c3,c4,c5,c6,c7]) rfl ?_;have hB:=HB.out;exact ⟨rfl,by go_grown⟩
   ·go_wp2_with fail
    refine bodyPost_ret (v:= .tuple #[.agg #[.int .i64 n0,.int .i64 e0,.int .i64 n1,.int .i64 e1,.int .i64 node,.int .i64 1,.int .i64 n3,.int .i64 e3],.int .i64 0]) (by simp [results,Tryz.results68,go_sem,r0,r1,r2,r3,r4,r5,r6,r7,c0,c1,c2,c3,c4,c5,c6,c7]) rfl ?_;have hB:=HB.out;exact ⟨rfl,by go_grown⟩
   go_wp2_with fail
   refine bodyPost_ret (v:= .tuple #[.agg #[.int .i64 n0,.int .i64 e0,.int .i64 n1,.int .i64 e1,.int .i64 n2,.int .i64 e2,.int .i64 node,.int .i64 1],.int .i64 0]) (by simp [results,Tryz.results68,go_sem,r0,r1,r2,r3,r4,r5,r6,r7,c0,c1,c2,c3,c4,c5,c6,c7]) rfl ?_;have hB:=HB.out;exact ⟨rfl,by go_grown⟩
  have e:=HR3.out;rw [if_pos b3] at e;subst e;have hd:decide ((⟨pn,pe⟩:Pl)=⟨-1,0⟩)=false:=by simpa [nowhere] using b3
  rw [hd] at hq;clear b3 hd HR3
  go_wp2_with fail
  refine bodyPost_ret (v:= .tuple #[.agg #[.int .i64 0,.int .i64 0,.int .i64 0,.int .i64 0,.int .i64 0,.int .i64 0,.int .i64 0,.int .i64 0],.int .i64 8]) (by simp [results,Tryz.results68,go_sem,r0,r1,r2,r3,r4,r5,r6,r7]) rfl ?_;have hB:=HB.out;exact ⟨rfl,by go_grown⟩
 have e:=HR.out;rw [if_pos hz] at e;subst e;have t0:(z==0)=false:=by simpa using hz
 have t0':(z != 0)=true:=by simpa using hz
 clear hz hq
 go_wp2_with fail
 refine bodyPost_ret (v:= .tuple #[.agg #[.int .i64 0,.int .i64 0,.int .i64 0,.int .i64 0,.int .i64 0,.int .i64 0,.int .i64 0,.int .i64 0],.int .i64 z]) (by simp [results,Tryz.results68,go_sem,r0,r1,r2,r3,r4,r5,r6,r7]) rfl ?_;have hB:=HB.out;exact ⟨rfl,by go_grown⟩
theorem Uu (d:Dir) (q epoch node:Int) (w:World) (hn:Nw w):Calls Tryz.prog 76 #[d.val,.int .i64 q,.int .i64 epoch,.int .i64 node] w (VJ w (Kg d q epoch node)):=by
 have HN:=Lib.hid hn;clear hn;have HC:=Lib.hid (λw h=>mG d q w h);have HR:Hid (Kg d q epoch node=if (bO d q).2≠0 then (ko,(bO d q).2) else if node<0\/4<node then (ko,2) else if (bO d q).1.epoch≠epoch then (ko,15)
 else if (bO d q).1.node=node then (ko,8) else if epoch=1048576 then (ko,14) else (d.set q.toNat ⟨node,epoch+1⟩,0)):=Lib.hid rfl
 have HZ:=Lib.hid (Fp (d:=d) (q:=q));generalize Kg d q epoch node=r at*;generalize bO d q=a at*;obtain ⟨⟨pn,pe⟩,z⟩:=a;obtain ⟨⟨n0,e0⟩,⟨n1,e1⟩,⟨n2,e2⟩,⟨n3,e3⟩⟩:=d;unfold Dir.val at*
 try simp only at HC⊢
 go_enter Tryz.func76,Tryz.ntmps76
 go_wp2_with fail
 refine (HC.out _ (HN.out.on (by go_grown))).mono ?_;rintro e w1 ⟨rfl,hb1⟩;have B0:=((fK.new w _ _).alloc _).below hb1 (by simp;omega);have B1:=(fK.new1 w _ _ _).below hb1 (by simp);have hz0:w.heap.size<w1.heap.size:=B0.lt;have hz1:w.heap.size+1<w1.heap.size:=B1.lt;have HB1:Hid (Below w.heap.size w w1):=Lib.hid (Below.trans (by go_grown) (hb1.mono (by simp;omega)))
 go_upto_region 2 with fail
 have C0:=B0.alloc (.cells #[.int .i64 pn,.int .i64 pe] 27);have C1:=B1.alloc (.cells #[.int .i64 pn,.int .i64 pe] 27);have C2:=fK.new w1 #[.int .i64 pn,.int .i64 pe] 27;have HB:Hid (Below w.heap.size w (w1.alloc (.cells #[.int .i64 pn,.int .i64 pe] 27))):=Lib.hid (HB1.out.alloc (by omega) _);generalize hw2:w1.alloc (.cells #[.int .i64 pn,.int .i64 pe] 27)=w2 at C0 C1 C2 HB⊢;clear hw2 HB1;obtain ⟨c0,c1,c2,c3,c4,c5,c6,c7,cf⟩:=C0.Ar;obtain ⟨r0,r1,r2,r3,r4,r5,r6,r7,rf⟩:=C1.Ar;obtain ⟨p0,p1,pf⟩:=C2.uj;have hne1: ¬ w1.heap.size=w.heap.size:=by omega
 have hne2: ¬ w1.heap.size=w.heap.size+1:=by omega
 try simp only at HR HZ
 clear hb1;by_cases hz:z=0
 ·obtain ⟨q0,q3,_,_,hpl⟩:=HZ.out hz;have hpe:pe<=1048576/\0<=pe:=by
   unfold yD at hpl;simp only at hpl;omega
  obtain ⟨pe1,pe2⟩:=hpe;have HR2:=Lib.hid (HR.out.trans (if_neg (by simpa using hz)));subst hz;clear hpl HR;by_cases b1:node<0
  ·have e:=HR2.out;rw [if_pos (by omega)] at e;subst e
   go_wp2_with fail
   refine bodyPost_ret (v:= .tuple #[.agg #[.int .i64 0,.int .i64 0,.int .i64 0,.int .i64 0,.int .i64 0,.int .i64 0,.int .i64 0,.int .i64 0],.int .i64 2]) (by simp [results,Tryz.results76,go_sem,r0,r1,r2,r3,r4,r5,r6,r7]) rfl ?_;have hB:=HB.out;exact ⟨rfl,by go_grown⟩
  by_cases b2:5<=node
  ·have e:=HR2.out;rw [if_pos (by omega)] at e;subst e
   go_wp2_with fail
   refine bodyPost_ret (v:= .tuple #[.agg #[.int .i64 0,.int .i64 0,.int .i64 0,.int .i64 0,.int .i64 0,.int .i64 0,.int .i64 0,.int .i64 0],.int .i64 2]) (by simp [results,Tryz.results76,go_sem,r0,r1,r2,r3,r4,r5,r6,r7]) rfl ?_;have hB:=HB.out;exact ⟨rfl,by go_grown⟩
  have HR3:=Lib.hid (HR2.out.trans (if_neg (by omega)));clear HR2;by_cases b3:pe=epoch
  ·have HR4:=Lib.hid (HR3.out.trans (if_neg (by simpa using b3)));subst b3;clear HR3;by_cases b4:pn=node
   ·have e:=HR4.out;rw [if_pos b4] at e;subst e;have t4:(pn==node)=true:=by simpa using b4
    clear b4
    go_wp2_with fail
    refine bodyPost_ret (v:= .tuple #[.agg #[.int .i64 0,.int .i64 0,.int .i64 0,.int .i64 0,.int .i64 0,.int .i64 0,.int .i64 0,.int .i64 0],.int .i64 8]) (by simp [results,Tryz.results76,go_sem,r0,r1,r2,r3,r4,r5,r6,r7]) rfl ?_;have hB:=HB.out;exact ⟨rfl,by go_grown⟩
   have HR5:=Lib.hid (HR4.out.trans (if_neg b4));have t4:(pn==node)=false:=by simpa using b4
   clear b4 HR4;by_cases b5:pe=1048576
   ·have e:=HR5.out;rw [if_pos b5] at e;subst e;subst b5
    go_wp2_with fail
    refine bodyPost_ret (v:= .tuple #[.agg #[.int .i64 0,.int .i64 0,.int .i64 0,.int .i64 0,.int .i64 0,.int .i64 0,.int .i64 0,.int .i64 0],.int .i64 14]) (by simp [results,Tryz.results76,go_sem,r0,r1,r2,r3,r4,r5,r6,r7]) rfl ?_;have hB:=HB.out;exact ⟨rfl,by go_grown⟩
   have e:=HR5.out;rw [if_neg b5] at e;subst e;have t5:(pe==1048576)=false:=by simpa using b5
   clear b5 HR5
   rcases (show q=0\/q=1\/q=2\/q=3 by omega) with rfl | rfl | rfl | rfl
   ·go_wp2_with fail
    refine bodyPost_ret (v:= .tuple #[.agg #[.int .i64 node,.int .i64 (pe+1),.int .i64 n1,.int .i64 e1,.int .i64 n2,.int .i64 e2,.int .i64 n3,.int .i64 e3],.int .i64 0]) (by simp [results,Tryz.results76,go_sem,r0,r1,r2,r3,r4,r5,r6,r7,c0,c1,c2,c3,c4,c5,c6,c7]) rfl ?_;have hB:=HB.out;exact ⟨rfl,by go_grown⟩
   ·go_wp2_with fail
    refine bodyPost_ret (v:= .tuple #[.agg #[.int .i64 n0,.int .i64 e0,.int .i64 node,.int .i64 (pe+1),.int .i64 n2,.int .i64 e2,.int .i64 n3,.int .i64 e3],.int .i64 0]) (by simp [results,Tryz.results76,go_sem,r0,r1,r2,r3,r4,r5,r6,r7,c0,c1,c2,c3,c4,c5,c6,c7]) rfl ?_;have hB:=HB.out;exact ⟨rfl,by go_grown⟩
   ·go_wp2_with fail
    refine bodyPost_ret (v:= .tuple #[.agg #[.int .i64 n0,.int .i64 e0,.int .i64 n1,.int .i64 e1,.int .i64 node,.int .i64 (pe+1),.int .i64 n3,.int .i64 e3],.int .i64 0]) (by simp [results,Tryz.results76,go_sem,r0,r1,r2,r3,r4,r5,r6,r7,c0,c1,c2,c3,c4,c5,c6,c7]) rfl ?_;have hB:=HB.out;exact ⟨rfl,by go_grown⟩
   go_wp2_with fail
   refine bodyPost_ret (v:= .tuple #[.agg #[.int .i64 n0,.int .i64 e0,.int .i64 n1,.int .i64 e1,.int .i64 n2,.int .i64 e2,.int .i64 node,.int .i64 (pe+1)],.int .i64 0]) (by simp [results,Tryz.results76,go_sem,r0,r1,r2,r3,r4,r5,r6,r7,c0,c1,c2,c3,c4,c5,c6,c7]) rfl ?_;have hB:=HB.out;exact ⟨rfl,by go_grown⟩
  have e:=HR3.out;rw [if_pos (by simpa using b3)] at e;subst e;have t3:(pe==epoch)=false:=by simpa using b3
  have t3':(pe != epoch)=true:=by simpa using b3
  clear b3
  go_wp2_with fail
  refine bodyPost_ret (v:= .tuple #[.agg #[.int .i64 0,.int .i64 0,.int .i64 0,.int .i64 0,.int .i64 0,.int .i64 0,.int .i64 0,.int .i64 0],.int .i64 15]) (by simp [results,Tryz.results76,go_sem,r0,r1,r2,r3,r4,r5,r6,r7]) rfl ?_;have hB:=HB.out;exact ⟨rfl,by go_grown⟩
 have e:=HR.out;rw [if_pos hz] at e;subst e;have t0:(z==0)=false:=by simpa using hz
 have t0':(z != 0)=true:=by simpa using hz
 clear hz
 go_wp2_with fail
 refine bodyPost_ret (v:= .tuple #[.agg #[.int .i64 0,.int .i64 0,.int .i64 0,.int .i64 0,.int .i64 0,.int .i64 0,.int .i64 0,.int .i64 0],.int .i64 z]) (by simp [results,Tryz.results76,go_sem,r0,r1,r2,r3,r4,r5,r6,r7]) rfl ?_;have hB:=HB.out;exact ⟨rfl,by go_grown⟩
end Go.Proofs.YtnhimdkpkmbhlaaGreatDoor
