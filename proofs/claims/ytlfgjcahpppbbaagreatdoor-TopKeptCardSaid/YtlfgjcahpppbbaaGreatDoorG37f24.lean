import Derived.Deep.DeepCutAuto
import Derived.Test.YtlfgjcahpppbbaaGreatDoorGe8e34
set_option maxRecDepth 100000
set_option maxHeartbeats 8000000
set_option linter.unusedSimpArgs false
set_option linter.unusedVariables false
namespace Go.Proofs.YtlfgjcahpppbbaaGreatDoor
open ChangeShapes WideShapes RowKit
noncomputable def qX (d:Dir) (q:Int):Pl×Int:=if gK d≠0 then (mZ,gK d) else if q<0\/3<q then (mZ,2) else (d.at q.toNat,0)
noncomputable def aY (d:Dir) (q:Int):Pl×Int:=if (qX d q).2=0/\(qX d q).1=nowhere then (mZ,7) else qX d q
theorem Lm {d:Dir} {q:Int} (h:gK d≠0):qX d q=(mZ,gK d):=if_pos h
theorem Lp {d:Dir} {q:Int} (h:gK d=0) (hq:q<0\/3<q):qX d q=(mZ,2):=by
 unfold qX;rw [if_neg oQ,if_pos hq]
theorem Qi {d:Dir} {q:Int} (h:gK d=0) (hq: ¬ (q<0\/3<q)):qX d q=(d.at q.toNat,0):=by
 unfold qX;rw [if_neg oQ,if_neg hq]
theorem Q8 {d:Dir} {q:Int} (h:gK d≠0):aY d q=(mZ,gK d):=by
 unfold aY;rw [Lm h,if_neg (λhh=>h hh.1)]
theorem Q9 {d:Dir} {q:Int} (h:gK d=0) (hq:q<0\/3<q):aY d q=(mZ,2):=by
 unfold aY;rw [Lp h hq,if_neg (λhh=>by cases hh.1)]
theorem U2 {d:Dir} {q:Int} (h:gK d=0) (hq: ¬ (q<0\/3<q)) (hn:d.at q.toNat=nowhere):aY d q=(mZ,7):=by
 unfold aY;rw [Qi h hq,if_pos ⟨rfl,hn⟩]
theorem U3 {d:Dir} {q:Int} (h:gK d=0) (hq: ¬ (q<0\/3<q)) (hn:d.at q.toNat≠nowhere):aY d q=(d.at q.toNat,0):=by
 unfold aY;rw [Qi h hq,if_neg (λhh=>hn hh.2)]
theorem Ov (d:Dir) (q:Int) (w:World) (hn:Nw w):Calls Tryz.prog 83 #[d.val,.int .i64 q] w (aeA w (qX d q)):=by
 have HN:=Lib.hid hn;have HC:=Lib.hid (λw h=>QN d w h);have HR0:Hid (∀ r,r=qX d q->r=if gK d≠0 then (mZ,gK d) else if q<0\/3<q then (mZ,2) else (d.at q.toNat,0)):=Lib.hid (λr h=>h);generalize hr:qX d q=r;have HR:=Lib.hid (HR0.out r hr.symm);clear hn hr HR0;generalize gK d=z at HC HR;obtain ⟨⟨n0,e0⟩,⟨n1,e1⟩,⟨n2,e2⟩,⟨n3,e3⟩⟩:=d;unfold Dir.val at*;simp only at HC⊢
 go_enter Tryz.func83,Tryz.ntmps83
 go_wp2_with fail
 refine (HC.out _ (HN.out.on gQ)).mono ?_;rintro e w1 ⟨rfl,hb1⟩;have B0:=((fV.new w _ _).alloc _).below hb1 jQ;have B1:=(fV.new1 w _ _ _).below hb1 iQ;obtain ⟨c0,c1,c2,c3,c4,c5,c6,c7,cf⟩:=B0.CY;obtain ⟨r0,r1,rf⟩:=B1.vK;have hz0:w.heap.size<w1.heap.size:=B0.lt;have hz1:w.heap.size+1<w1.heap.size:=B1.lt;have HB:Hid (Below w.heap.size w w1):=Lib.hid (Below.trans gQ (hb1.mono jQ));clear hb1;by_cases hz:z=0
 ·subst hz;by_cases q0:q<0
  ·have e:=HR.out;rw [if_neg oQ,if_pos oQ] at e;subst e
   go_wp2_with fail
   refine bodyPost_ret (v:= .tuple #[.agg #[.int .i64 0,.int .i64 0],.int .i64 2]) (by simp [results,Tryz.results83,go_sem,r0,r1]) rfl ?_;have hB:=HB.out;exact ⟨rfl,by go_grown⟩
  by_cases q4:4<=q
  ·have e:=HR.out;rw [if_neg oQ,if_pos oQ] at e;subst e
   go_wp2_with fail
   refine bodyPost_ret (v:= .tuple #[.agg #[.int .i64 0,.int .i64 0],.int .i64 2]) (by simp [results,Tryz.results83,go_sem,r0,r1]) rfl ?_;have hB:=HB.out;exact ⟨rfl,by go_grown⟩
  rcases (show q=0\/q=1\/q=2\/q=3 by omega) with rfl | rfl | rfl | rfl
  ·have e:=HR.out;rw [if_neg oQ,if_neg oQ] at e;subst e
   go_wp2_with fail
   refine bodyPost_ret (v:= .tuple #[.agg #[.int .i64 n0,.int .i64 e0],.int .i64 0]) (by simp [results,Tryz.results83,go_sem,r0,r1]) rfl ?_;have hB:=HB.out;exact ⟨rfl,by go_grown⟩
  ·have e:=HR.out;rw [if_neg oQ,if_neg oQ] at e;subst e
   go_wp2_with fail
   refine bodyPost_ret (v:= .tuple #[.agg #[.int .i64 n1,.int .i64 e1],.int .i64 0]) (by simp [results,Tryz.results83,go_sem,r0,r1]) rfl ?_;have hB:=HB.out;exact ⟨rfl,by go_grown⟩
  ·have e:=HR.out;rw [if_neg oQ,if_neg oQ] at e;subst e
   go_wp2_with fail
   refine bodyPost_ret (v:= .tuple #[.agg #[.int .i64 n2,.int .i64 e2],.int .i64 0]) (by simp [results,Tryz.results83,go_sem,r0,r1]) rfl ?_;have hB:=HB.out;exact ⟨rfl,by go_grown⟩
  have e:=HR.out;rw [if_neg oQ,if_neg oQ] at e;subst e
  go_wp2_with fail
  refine bodyPost_ret (v:= .tuple #[.agg #[.int .i64 n3,.int .i64 e3],.int .i64 0]) (by simp [results,Tryz.results83,go_sem,r0,r1]) rfl ?_;have hB:=HB.out;exact ⟨rfl,by go_grown⟩
 have e:=HR.out;rw [if_pos hz] at e;subst e
 go_wp2_with fail
 refine bodyPost_ret (v:= .tuple #[.agg #[.int .i64 0,.int .i64 0],.int .i64 z]) (by simp [results,Tryz.results83,go_sem,r0,r1]) rfl ?_;have hB:=HB.out;exact ⟨rfl,by go_grown⟩
theorem abv {d:Dir} {q:Int} (h:(qX d q).2=0):0<=q/\q<=3:=by
 by_cases hf:gK d=0
 ·by_cases hq:q<0\/3<q
  ·rw [Lp hf hq] at h
   cases h
  exact ⟨by omega,by omega⟩
 rw [Lm hf] at h;exact absurd h hf
noncomputable def rZ (d:Dir) (q node:Int):Dir×Int:=
 if (qX d q).2≠0 then (kH,(qX d q).2) else if node<0\/4<node then (kH,2) else if (qX d q).1≠nowhere then (kH,8) else (d.set q.toNat ⟨node,1⟩,0)
theorem Ij {d:Dir} {q:Int} (h:(aY d q).2=0):0<=q/\q<=3/\(aY d q).1=d.at q.toNat/\(aY d q).1≠nowhere/\za (aY d q).1:=by
 by_cases hf:gK d=0
 ·by_cases hq:q<0\/3<q
  ·rw [Q9 hf hq] at h
   cases h
  by_cases hn:d.at q.toNat=nowhere
  ·rw [U2 hf hq hn] at h
   cases h
  rw [U3 hf hq hn];exact ⟨by omega,by omega,rfl,hn,Ni hf _ oQ⟩
 rw [Q8 hf] at h;exact absurd h hf
noncomputable def BJ (d:Dir) (q epoch node:Int):Dir×Int:=
 if (aY d q).2≠0 then (kH,(aY d q).2) else if node<0\/4<node then (kH,2) else if (aY d q).1.epoch≠epoch then (kH,15)
 else if (aY d q).1.node=node then (kH,8) else if epoch=1048576 then (kH,14) else (d.set q.toNat ⟨node,epoch+1⟩,0)
theorem nC (d:Dir) (q:Int) (w:World) (hn:Nw w):Calls Tryz.prog 68 #[d.val,iV q] w (aeA w (aY d q)):=by
 have HN:=Lib.hid hn;have HC:=Lib.hid (λw h=>Ov d q w h);have HR:Hid (aY d q=if (qX d q).2=0/\(qX d q).1=nowhere then (mZ,7) else qX d q):=Lib.hid rfl;clear hn;generalize aY d q=r at*;generalize qX d q=a at*;obtain ⟨⟨pn,pe⟩,z⟩:=a;have hq:=K9 ⟨pn,pe⟩ nowhere;unfold nowhere at hq;simp only at hq;obtain ⟨⟨n0,e0⟩,⟨n1,e1⟩,⟨n2,e2⟩,⟨n3,e3⟩⟩:=d;unfold Dir.val at*;simp only at HC HR⊢
 go_enter Tryz.func68,Tryz.ntmps68
 go_wp2_with fail
 refine (HC.out _ (HN.out.on gQ)).mono ?_;rintro e w1 ⟨rfl,hb1⟩;have B1:=(fV.new1 w _ _ _).below hb1 iQ;obtain ⟨r0,r1,rf⟩:=B1.vK;have hz1:w.heap.size+1<w1.heap.size:=B1.lt;have HB:Hid (Below w.heap.size w w1):=Lib.hid (Below.trans gQ (hb1.mono jQ));obtain ⟨g0,g1,g2⟩:=HN.out.on HB.out;clear hb1;by_cases hz:z=0
 ·by_cases hp:(⟨pn,pe⟩:Pl)=nowhere
  ·have e:=HR.out;rw [if_pos ⟨hz,hp⟩] at e;subst e;subst hz;have hd:decide ((⟨pn,pe⟩:Pl)=⟨-1,0⟩)=true:=by simpa [nowhere] using hp
   rw [hd] at hq;clear hp hd
   go_wp2_with fail
   refine bodyPost_ret (v:= .tuple #[.agg #[iV 0,iV 0],iV 7]) (by simp [results,Tryz.results68,go_sem,World.cell?_alloc_lt,hz1,r0,r1]) rfl ?_;have hB:=HB.out;exact ⟨rfl,by go_grown⟩
  have e:=HR.out;rw [if_neg (λh=>hp h.2)] at e;subst e;subst hz;have hd:decide ((⟨pn,pe⟩:Pl)=⟨-1,0⟩)=false:=by simpa [nowhere] using hp
  rw [hd] at hq;clear hp hd
  go_wp2_with fail
  refine bodyPost_ret (v:= .tuple #[.agg #[iV pn,iV pe],iV 0]) (by simp [results,Tryz.results68,go_sem,World.cell?_alloc_lt,hz1,r0,r1]) rfl ?_;have hB:=HB.out;exact ⟨rfl,by go_grown⟩
 have e:=HR.out;rw [if_neg (λh=>hz h.1)] at e;subst e;have hz':(z==0)=false:=by simpa using hz
 clear hq
 go_wp2_with fail
 refine bodyPost_ret (v:= .tuple #[.agg #[iV pn,iV pe],iV z]) (by simp [results,Tryz.results68,go_sem,World.cell?_alloc_lt,hz1,r0,r1]) rfl ?_;have hB:=HB.out;exact ⟨rfl,by go_grown⟩
theorem Yi (d:Dir) (q epoch node:Int) (w:World) (hn:Nw w):Calls Tryz.prog 67 #[d.val,.int .i64 q,.int .i64 epoch,.int .i64 node] w (Zo w (BJ d q epoch node)):=by
 have HN:=Lib.hid hn;clear hn;have HC:=Lib.hid (λw h=>nC d q w h);have HR:Hid (BJ d q epoch node=if (aY d q).2≠0 then (kH,(aY d q).2) else if node<0\/4<node then (kH,2) else if (aY d q).1.epoch≠epoch then (kH,15)
 else if (aY d q).1.node=node then (kH,8) else if epoch=1048576 then (kH,14) else (d.set q.toNat ⟨node,epoch+1⟩,0)):=Lib.hid rfl
 have HZ:=Lib.hid (Ij (d:=d) (q:=q));generalize BJ d q epoch node=r at*;generalize aY d q=a at*;obtain ⟨⟨pn,pe⟩,z⟩:=a;obtain ⟨⟨n0,e0⟩,⟨n1,e1⟩,⟨n2,e2⟩,⟨n3,e3⟩⟩:=d;unfold Dir.val at*
 try simp only at HC⊢
 go_enter Tryz.func67,Tryz.ntmps67
 go_wp2_with fail
 refine (HC.out _ (HN.out.on gQ)).mono ?_;rintro e w1 ⟨rfl,hb1⟩;have B0:=((fV.new w _ _).alloc _).below hb1 jQ;have B1:=(fV.new1 w _ _ _).below hb1 iQ;have hz0:w.heap.size<w1.heap.size:=B0.lt;have hz1:w.heap.size+1<w1.heap.size:=B1.lt;have HB1:Hid (Below w.heap.size w w1):=Lib.hid (Below.trans gQ (hb1.mono jQ))
 go_upto_region 2 with fail
 have C0:=B0.alloc (.cells #[.int .i64 pn,.int .i64 pe] 27);have C1:=B1.alloc (.cells #[.int .i64 pn,.int .i64 pe] 27);have C2:=fV.new w1 #[.int .i64 pn,.int .i64 pe] 27;have HB:Hid (Below w.heap.size w (w1.alloc (.cells #[.int .i64 pn,.int .i64 pe] 27))):=Lib.hid (HB1.out.alloc oQ _);generalize hw2:w1.alloc (.cells #[.int .i64 pn,.int .i64 pe] 27)=w2 at C0 C1 C2 HB⊢;clear hw2 HB1;obtain ⟨c0,c1,c2,c3,c4,c5,c6,c7,cf⟩:=C0.CY;obtain ⟨r0,r1,r2,r3,r4,r5,r6,r7,rf⟩:=C1.CY;obtain ⟨p0,p1,pf⟩:=C2.vK;have hne1: ¬ w1.heap.size=w.heap.size:=oQ;have hne2: ¬ w1.heap.size=w.heap.size+1:=oQ
 try simp only at HR HZ
 clear hb1;by_cases hz:z=0
 ·obtain ⟨q0,q3,_,_,hpl⟩:=HZ.out hz;have hpe:pe<=1048576/\0<=pe:=by
   unfold za at hpl;simp only at hpl;omega
  obtain ⟨pe1,pe2⟩:=hpe;have HR2:=Lib.hid (HR.out.trans (if_neg (by simpa using hz)));subst hz;clear hpl HR;by_cases b1:node<0
  ·have e:=HR2.out;rw [if_pos oQ] at e;subst e
   go_wp2_with fail
   refine bodyPost_ret (v:= .tuple #[.agg #[.int .i64 0,.int .i64 0,.int .i64 0,.int .i64 0,.int .i64 0,.int .i64 0,.int .i64 0,.int .i64 0],.int .i64 2]) (by simp [results,Tryz.results67,go_sem,r0,r1,r2,r3,r4,r5,r6,r7]) rfl ?_;have hB:=HB.out;exact ⟨rfl,by go_grown⟩
  by_cases b2:5<=node
  ·have e:=HR2.out;rw [if_pos oQ] at e;subst e
   go_wp2_with fail
   refine bodyPost_ret (v:= .tuple #[.agg #[.int .i64 0,.int .i64 0,.int .i64 0,.int .i64 0,.int .i64 0,.int .i64 0,.int .i64 0,.int .i64 0],.int .i64 2]) (by simp [results,Tryz.results67,go_sem,r0,r1,r2,r3,r4,r5,r6,r7]) rfl ?_;have hB:=HB.out;exact ⟨rfl,by go_grown⟩
  have HR3:=Lib.hid (HR2.out.trans (if_neg oQ));clear HR2;by_cases b3:pe=epoch
  ·have HR4:=Lib.hid (HR3.out.trans (if_neg (by simpa using b3)));subst b3;clear HR3;by_cases b4:pn=node
   ·have e:=HR4.out;rw [if_pos b4] at e;subst e;have t4:(pn==node)=true:=by simpa using b4
    clear b4
    go_wp2_with fail
    refine bodyPost_ret (v:= .tuple #[.agg #[.int .i64 0,.int .i64 0,.int .i64 0,.int .i64 0,.int .i64 0,.int .i64 0,.int .i64 0,.int .i64 0],.int .i64 8]) (by simp [results,Tryz.results67,go_sem,r0,r1,r2,r3,r4,r5,r6,r7]) rfl ?_;have hB:=HB.out;exact ⟨rfl,by go_grown⟩
   have HR5:=Lib.hid (HR4.out.trans (if_neg b4));have t4:(pn==node)=false:=by simpa using b4
   clear b4 HR4;by_cases b5:pe=1048576
   ·have e:=HR5.out;rw [if_pos b5] at e;subst e;subst b5
    go_wp2_with fail
    refine bodyPost_ret (v:= .tuple #[.agg #[.int .i64 0,.int .i64 0,.int .i64 0,.int .i64 0,.int .i64 0,.int .i64 0,.int .i64 0,.int .i64 0],.int .i64 14]) (by simp [results,Tryz.results67,go_sem,r0,r1,r2,r3,r4,r5,r6,r7]) rfl ?_;have hB:=HB.out;exact ⟨rfl,by go_grown⟩
   have e:=HR5.out;rw [if_neg b5] at e;subst e;have t5:(pe==1048576)=false:=by simpa using b5
   clear b5 HR5
   rcases (show q=0\/q=1\/q=2\/q=3 by omega) with rfl | rfl | rfl | rfl
   ·go_wp2_with fail
    refine bodyPost_ret (v:= .tuple #[.agg #[.int .i64 node,.int .i64 (pe+1),.int .i64 n1,.int .i64 e1,.int .i64 n2,.int .i64 e2,.int .i64 n3,.int .i64 e3],.int .i64 0]) (by simp [results,Tryz.results67,go_sem,r0,r1,r2,r3,r4,r5,r6,r7,c0,c1,c2,c3,c4,c5,c6,c7]) rfl ?_;have hB:=HB.out;exact ⟨rfl,by go_grown⟩
   ·go_wp2_with fail
    refine bodyPost_ret (v:= .tuple #[.agg #[.int .i64 n0,.int .i64 e0,.int .i64 node,.int .i64 (pe+1),.int .i64 n2,.int .i64 e2,.int .i64 n3,.int .i64 e3],.int .i64 0]) (by simp [results,Tryz.results67,go_sem,r0,r1,r2,r3,r4,r5,r6,r7,c0,c1,c2,c3,c4,c5,c6,c7]) rfl ?_;have hB:=HB.out;exact ⟨rfl,by go_grown⟩
   ·go_wp2_with fail
    refine bodyPost_ret (v:= .tuple #[.agg #[.int .i64 n0,.int .i64 e0,.int .i64 n1,.int .i64 e1,.int .i64 node,.int .i64 (pe+1),.int .i64 n3,.int .i64 e3],.int .i64 0]) (by simp [results,Tryz.results67,go_sem,r0,r1,r2,r3,r4,r5,r6,r7,c0,c1,c2,c3,c4,c5,c6,c7]) rfl ?_;have hB:=HB.out;exact ⟨rfl,by go_grown⟩
   go_wp2_with fail
   refine bodyPost_ret (v:= .tuple #[.agg #[.int .i64 n0,.int .i64 e0,.int .i64 n1,.int .i64 e1,.int .i64 n2,.int .i64 e2,.int .i64 node,.int .i64 (pe+1)],.int .i64 0]) (by simp [results,Tryz.results67,go_sem,r0,r1,r2,r3,r4,r5,r6,r7,c0,c1,c2,c3,c4,c5,c6,c7]) rfl ?_;have hB:=HB.out;exact ⟨rfl,by go_grown⟩
  have e:=HR3.out;rw [if_pos (by simpa using b3)] at e;subst e;have t3:(pe==epoch)=false:=by simpa using b3
  have t3':(pe != epoch)=true:=by simpa using b3
  clear b3
  go_wp2_with fail
  refine bodyPost_ret (v:= .tuple #[.agg #[.int .i64 0,.int .i64 0,.int .i64 0,.int .i64 0,.int .i64 0,.int .i64 0,.int .i64 0,.int .i64 0],.int .i64 15]) (by simp [results,Tryz.results67,go_sem,r0,r1,r2,r3,r4,r5,r6,r7]) rfl ?_;have hB:=HB.out;exact ⟨rfl,by go_grown⟩
 have e:=HR.out;rw [if_pos hz] at e;subst e;have t0:(z==0)=false:=by simpa using hz
 have t0':(z != 0)=true:=by simpa using hz
 clear hz
 go_wp2_with fail
 refine bodyPost_ret (v:= .tuple #[.agg #[.int .i64 0,.int .i64 0,.int .i64 0,.int .i64 0,.int .i64 0,.int .i64 0,.int .i64 0,.int .i64 0],.int .i64 z]) (by simp [results,Tryz.results67,go_sem,r0,r1,r2,r3,r4,r5,r6,r7]) rfl ?_;have hB:=HB.out;exact ⟨rfl,by go_grown⟩
end Go.Proofs.YtlfgjcahpppbbaaGreatDoor
