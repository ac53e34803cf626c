import Derived.Deep.DeepCutAuto
import Derived.Test.YtceeleolddkibaaGreatDoorG5fe45
import Derived.Test.YtceeleolddkibaaGreatDoorGb49f5
set_option linter.all false
set_option maxRecDepth 100000
set_option maxHeartbeats 8000000
namespace Go.Proofs.YtceeleolddkibaaGreatDoor
open List Nat Go.Proofs.Tryz ChangeShapes WideShapes RowKit
def UM(p:List UInt8):List UInt8:=UInt8.ofNat (p.length / 256)::UInt8.ofNat (p.length % 256)::p
def lI(p:List UInt8):List UInt8:=UM p++CG (CW (UM p))
def yw(p:List UInt8):(lI p).length=p.length+6:=by simp[lI,UM,CG]
def abo(p:List UInt8):(UM p).length=p.length+2:=by simp[UM]
def abp{n:Int}(I:0<=n)(h1:n<=4294967295):
 JV (CG n)=[.int .u8 (n / 16777216),.int .u8 (n / 65536 % 256),.int .u8 (n / 256 % 256),.int .u8 (n % 256)]:=by
 have h:∀m:Int,0<=m->m<=255->((UInt8.ofNat m.toNat).toNat:Int)=m:=by
  intro m a b;simp;omega
 simp only[JV,CG,map_cons,map_nil];rw[h _ Y Y,h _ Y Y,h _ Y Y,h _ Y Y]
def OD(l:List UInt8):0<=CW l/\CW l<=4293984240:=by
 unfold CW;omega
def ah4(p:List UInt8)(h:p.length<=65535):JV (UM p)=[.int .u8 ((p.length:Int) / 256),.int .u8 ((p.length:Int) % 256)]++JV p:=by
 simp only[UM,JV,map_cons,cons_append,nil_append,List.cons.injEq,Value.int.injEq,true_and,and_true]
 constructor
 ·simp;omega
 simp
def two_bytes(w:World)(a b:Int):(w.alloc (.cells #[.int .u8 a,.int .u8 b] 5)).ownsRow w.heap.size 5 1 (.slice (some ⟨w.heap.size,0,none⟩) 2 2) 2 [.int .u8 a,.int .u8 b]:=
 ab5 w _ 5 2 1 E (by simp[maxLen])
def abq(w:World)(s:Int)(h:0<=s)(h1:s<=4294967295):Rd (w.alloc (.cells #[.int .u8 (s / 16777216),.int .u8 (s / 65536 % 256),.int .u8 (s / 256 % 256),.int .u8 (s % 256)] 5)) (w.heap.size+1) 1 (some ⟨w.heap.size,0,none⟩) 4 (JV (CG s)):=by
 rw[abp h h1];exact Rd.ale w 5 _ 4 1 E
def Yw(A:Option Addr)(n c:Nat)(p:List UInt8)(w:World)(h:Rd w w.heap.size 1 A n (JV p))(hn:n<=1000):
 Calls prog 79 #[.slice A n c] w (kK w 5 1 (lI p).length (JV (lI p))):=by
 obtain⟨j0,hj0,Wt,Wu,Wv⟩:=info_parts Hg;have hl:=h.qx;subst hl;have H:=Lib.hid h;have HC:=Lib.hid (ah4 p Y);have HS:=Lib.hid (λA n c w (h:Rd w w.heap.size 1 A n (JV (UM p)))=>Rp A n c (UM p) w h (by have:=h.qx;have:=abo p;omega));have HF:Hid ((lI p).length=p.length+6/\JV (lI p)=JV (UM p)++JV (CG (CW (UM p)))):=Lib.hid ⟨yw p,by rw[lI,UW]⟩;obtain⟨s0,s1⟩:=OD (UM p);clear h;generalize lI p=z at HF⊢;generalize CW (UM p)=s at HS HF s0 s1;have H4:=Lib.hid (λw=>abq w s s0 Y);have H2:=Lib.hid (two_bytes w ((p.length:Int) / 256) ((p.length:Int) % 256))
 go_enter func79,Tryz.ntmps79
 go_wp2_with (at_builtin;refine kP _ E (.tmp 12) (.tmp 13) _ E w.heap.size 5 j0 _ 1 1 Tryz.underlying89 hj0 Wt Wu Wv E Y (.slice (some ⟨w.heap.size,0,none⟩) 2 2) 2 _ E H2.out w.heap.size A p.length c (JV p) E (by exact H.out.alloc aB _) (UO _) lQ Y iQ ?_;intro v1 w3 hown1 hg1 Pk;obtain⟨A4,c4,rfl,_⟩:=nZ hown1;rw[<-HC.out]at hown1)
 have HB3:Hid (Below w.heap.size w w3):=Lib.hid (Below.grown gQ hg1 iQ (λk hk=>by simp[Value.ownBlock]at hk;omega));have HO3:=Lib.hid hown1;have HR3:=Lib.hid (Rd.wZ hown1);have hz3:w.heap.size<w3.heap.size:=by have:=hg1.size;simp at this;omega
 clear hown1 hg1 Pk
 go_wp2_with fail
 refine(HS.out _ _ _ _ (by exact HR3.out)).mono ?_;rintro e w4 ⟨rfl,q,rfl⟩;have HO4:Hid ((w3.drewN q).ownsRow w.heap.size 5 1 (.slice A4 (2+p.length) c4) (2+p.length) (JV (UM p))):=HO3;have HB4:=Lib.hid (MN HB3.out q);have hz4:w.heap.size< (w3.drewN q).heap.size:=hz3;clear HO3 HR3;generalize w3.drewN q=w4 at HO4 HB4 hz4⊢
 go_wp2_with (at_builtin;refine kP _ E (.tmp 17) (.tmp 29) _ E w.heap.size 5 j0 _ 1 1 Tryz.underlying89 hj0 Wt Wu Wv E Y _ (2+p.length) (JV (UM p)) E (HO4.out.alloc _) (w4.heap.size+1) (some ⟨w4.heap.size,0,none⟩) 4 4 (JV (CG s)) E (H4.out w4) (UO _) lQ Y jQ ?_;intro v1 w5 hown1 hg1 Pk;obtain⟨A5,c5,rfl,_⟩:=nZ hown1;rw[<-HF.out.2,show 2+p.length+4=z.length by rw[HF.out.1];omega]at hown1)
 have HB5:=Lib.hid (((HB4.out.alloc Y _).grown hg1 jQ (λk hk=>HO4.out.CB k hk)))
 go_ret
 rw[show 2+p.length+4=z.length by rw[HF.out.1];omega];exact⟨A5,c5,E,HB5.out,hown1⟩
def Yx(d:UE)(q node:Int)(w:World)(hn:Nw w):Calls prog 36 #[d.val,.int .i64 q,.int .i64 node] w (acJ w (vF d q node)):=by
 have HN:=Lib.hid hn;clear hn;have HC:=Lib.hid (λw h=>Rc d q w h);have HR:Hid (vF d q node=if (uM d q).2≠0 then(mR,(uM d q).2)else if node<0\/4<node then(mR,2)else if (uM d q).1≠nowhere then(mR,8)else(d.set q.toNat ⟨node,1⟩,0)):=Lib.hid E;have HZ:=Lib.hid (aeB (d:=d) (q:=q));generalize vF d q node=r at*;generalize uM d q=a at*;obtain⟨⟨pn,pe⟩,z⟩:=a;have hq:=aaS ⟨pn,pe⟩ nowhere;unfold nowhere at hq;simp only at hq;obtain⟨⟨n0,e0⟩,⟨n1,e1⟩,⟨n2,e2⟩,⟨n3,e3⟩⟩:=d;unfold UE.val at*
 try simp only at HC⊢
 go_enter func36,ntmps36
 go_wp2_with fail
 refine(HC.out _ (HN.out.on gQ)).mono ?_;rintro e w1 ⟨rfl,hb1⟩;have B0:=((iq.new w _ _).alloc _).below hb1 jQ;have B1:=(iq.new1 w _ _ _).below hb1 iQ;have hz0:w.heap.size<w1.heap.size:=B0.lt;have hz1:w.heap.size+1<w1.heap.size:=B1.lt;have HB1:Hid (Below w.heap.size w w1):=Lib.hid (Below.trans gQ (hb1.mono jQ))
 go_upto_region 2 with fail
 have C0:=B0.alloc (.cells #[.int .i64 pn,.int .i64 pe] 29);have C1:=B1.alloc (.cells #[.int .i64 pn,.int .i64 pe] 29);have C2:=iq.new w1 #[.int .i64 pn,.int .i64 pe] 29;have HB:Hid (Below w.heap.size w (w1.alloc (.cells #[.int .i64 pn,.int .i64 pe] 29))):=Lib.hid (HB1.out.alloc Y _);generalize hw2:w1.alloc (.cells #[.int .i64 pn,.int .i64 pe] 29)=w2 at C0 C1 C2 HB⊢;clear hw2 HB1;obtain⟨c0,c1,c2,c3,c4,c5,c6,c7,cf⟩:=C0.E5;obtain⟨r0,r1,r2,r3,r4,r5,r6,r7,rf⟩:=C1.E5;obtain⟨p0,p1,pf⟩:=C2.yK;have hne1:¬w1.heap.size=w.heap.size:=Y;have hne2:¬w1.heap.size=w.heap.size+1:=Y
 try simp only at HR HZ
 clear hb1;obtain⟨g0,g1,g2⟩:=HN.out.on HB.out;by_cases hz:z=0
 ·obtain⟨q0,q3⟩:=HZ.out hz;have HR2:=Lib.hid (HR.out.trans (ah (by simpa using hz)));subst hz;clear HR;by_cases b1:node<0
  ·have e:=HR2.out;rw[aj Y]at e;subst e;clear hq
   go_wp2_with fail
   refine bodyPost_ret (v:=.tuple #[.agg #[.int .i64 0,.int .i64 0,.int .i64 0,.int .i64 0,.int .i64 0,.int .i64 0,.int .i64 0,.int .i64 0],.int .i64 2]) (by simp[results,results36,go_sem,r0,r1,r2,r3,r4,r5,r6,r7]) E ?_;have hB:=HB.out;exact⟨E,by go_grown⟩
  by_cases b2:5<=node
  ·have e:=HR2.out;rw[aj Y]at e;subst e;clear hq
   go_wp2_with fail
   refine bodyPost_ret (v:=.tuple #[.agg #[.int .i64 0,.int .i64 0,.int .i64 0,.int .i64 0,.int .i64 0,.int .i64 0,.int .i64 0,.int .i64 0],.int .i64 2]) (by simp[results,results36,go_sem,r0,r1,r2,r3,r4,r5,r6,r7]) E ?_;have hB:=HB.out;exact⟨E,by go_grown⟩
  have HR3:=Lib.hid (HR2.out.trans (ah Y));clear HR2;by_cases b3:(⟨pn,pe⟩:Pl)=nowhere
  ·have e:=HR3.out;rw[ah (by simpa using b3)]at e;subst e;have hd:decide ((⟨pn,pe⟩:Pl)=⟨-1,0⟩)=true:=by simpa[nowhere]using b3
   rw[hd]at hq;clear b3 hd HR3
   rcases(show q=0\/q=1\/q=2\/q=3 by omega)with rfl|rfl|rfl|rfl
   ·go_wp2_with fail
    refine bodyPost_ret (v:=.tuple #[.agg #[.int .i64 node,.int .i64 1,.int .i64 n1,.int .i64 e1,.int .i64 n2,.int .i64 e2,.int .i64 n3,.int .i64 e3],.int .i64 0]) (by simp[results,results36,go_sem,r0,r1,r2,r3,r4,r5,r6,r7,c0,c1,c2,c3,c4,c5,c6,c7]) E ?_;have hB:=HB.out;exact⟨E,by go_grown⟩
   ·go_wp2_with fail
    refine bodyPost_ret (v:=.tuple #[.agg #[.int .i64 n0,.int .i64 e0,.int .i64 node,.int .i64 1,.int .i64 n2,.int .i64 e2,.int .i64 n3,.int .i64 e3],.int .i64 0]) (by simp[results,results36,go_sem,r0,r1,r2,r3,r4,r5,r6,r7,c0,c1,c2,c3,c4,c5,c6,c7]) E ?_;have hB:=HB.out;exact⟨E,by go_grown⟩
   ·go_wp2_with fail
    refine bodyPost_ret (v:=.tuple #[.agg #[.int .i64 n0,.int .i64 e0,.int .i64 n1,.int .i64 e1,.int .i64 node,.int .i64 1,.int .i64 n3,.int .i64 e3],.int .i64 0]) (by simp[results,results36,go_sem,r0,r1,r2,r3,r4,r5,r6,r7,c0,c1,c2,c3,c4,c5,c6,c7]) E ?_;have hB:=HB.out;exact⟨E,by go_grown⟩
   go_wp2_with fail
   refine bodyPost_ret (v:=.tuple #[.agg #[.int .i64 n0,.int .i64 e0,.int .i64 n1,.int .i64 e1,.int .i64 n2,.int .i64 e2,.int .i64 node,.int .i64 1],.int .i64 0]) (by simp[results,results36,go_sem,r0,r1,r2,r3,r4,r5,r6,r7,c0,c1,c2,c3,c4,c5,c6,c7]) E ?_;have hB:=HB.out;exact⟨E,by go_grown⟩
  have e:=HR3.out;rw[aj b3]at e;subst e;have hd:decide ((⟨pn,pe⟩:Pl)=⟨-1,0⟩)=false:=by simpa[nowhere]using b3
  rw[hd]at hq;clear b3 hd HR3
  go_wp2_with fail
  refine bodyPost_ret (v:=.tuple #[.agg #[.int .i64 0,.int .i64 0,.int .i64 0,.int .i64 0,.int .i64 0,.int .i64 0,.int .i64 0,.int .i64 0],.int .i64 8]) (by simp[results,results36,go_sem,r0,r1,r2,r3,r4,r5,r6,r7]) E ?_;have hB:=HB.out;exact⟨E,by go_grown⟩
 have e:=HR.out;rw[aj hz]at e;subst e;have t0:(z==0)=false:=by simpa using hz
 have t0':(z != 0)=true:=by simpa using hz
 clear hz hq
 go_wp2_with fail
 refine bodyPost_ret (v:=.tuple #[.agg #[.int .i64 0,.int .i64 0,.int .i64 0,.int .i64 0,.int .i64 0,.int .i64 0,.int .i64 0,.int .i64 0],.int .i64 z]) (by simp[results,results36,go_sem,r0,r1,r2,r3,r4,r5,r6,r7]) E ?_;have hB:=HB.out;exact⟨E,by go_grown⟩
end Go.Proofs.YtceeleolddkibaaGreatDoor
