import Derived.Shelf.SlicesG.Cmp
import Derived.Shelf.SlGeneric
import Derived.Ground.SlsfProg
import Derived.Ground.SlgcProg
import Derived.Test.YthhnonpehllibaaGreatDoorG1d9a7
import Derived.Test.YthhnonpehllibaaGreatDoorG7ff37
import Derived.Test.YthhnonpehllibaaGreatDoorGa1a24
set_option maxRecDepth 100000
set_option maxHeartbeats 8000000
namespace Go.Proofs.YthhnonpehllibaaGreatDoor
section
section
open Go.Shelf Go.RowKit Go.Lib Go.Sort
def TP:Go.Shelf.Ren:=⟨λ| 6=>126 | 15=>131 | 14=>130 | 28=>141 | 29=>142 | 20=>133 | 21=>134 | 22=>135 | 23=>136 | 24=>137 | 25=>138 | 26=>139 | 27=>140 | 46=>144 | 47=>145 | 48=>146 | 49=>147 | 50=>148 | 57=>149 | n=>n,λ| 22=>162 | 24=>209 | 25=>226 | 3=>3 | 39=>152 | 0=>0 | 53=>240 | 55=>242 | 4=>4 | 46=>234 | 45=>233 | 50=>28 | 5=>5 | 9=>9 | 66=>243 | 70=>94 | 76=>248 | 77=>249 | n=>n,λ| n=>n⟩
theorem YB:Go.Proofs.SlLaysF0.n6 Tryz.prog TP:={
 mixed:=by kernel_rfl
 f6:=⟨Tryz.f126.name,by decide,Tryz.func126.trans (congrArg some (by kernel_rfl))⟩
 f14:=⟨Tryz.f130.name,by decide,Tryz.func130.trans (congrArg some (by kernel_rfl))⟩
 f15:=Tryz.func131.trans (congrArg some (by kernel_rfl))
 f20:=⟨Tryz.f133.name,by decide,Tryz.func133.trans (congrArg some (by kernel_rfl))⟩
 f21:=⟨Tryz.f134.name,by decide,Tryz.func134.trans (congrArg some (by kernel_rfl))⟩
 f22:=⟨Tryz.f135.name,by decide,Tryz.func135.trans (congrArg some (by kernel_rfl))⟩
 f23:=⟨Tryz.f136.name,by decide,Tryz.func136.trans (congrArg some (by kernel_rfl))⟩
 f24:=⟨Tryz.f137.name,by decide,Tryz.func137.trans (congrArg some (by kernel_rfl))⟩
 f25:=⟨Tryz.f138.name,by decide,Tryz.func138.trans (congrArg some (by kernel_rfl))⟩
 f26:=⟨Tryz.f139.name,by decide,Tryz.func139.trans (congrArg some (by kernel_rfl))⟩
 f27:=⟨Tryz.f140.name,by decide,Tryz.func140.trans (congrArg some (by kernel_rfl))⟩
 f28:=Tryz.func141.trans (congrArg some (by kernel_rfl))
 f29:=Tryz.func142.trans (congrArg some (by kernel_rfl))
 f46:=⟨Tryz.f144.name,by decide,Tryz.func144.trans (congrArg some (by kernel_rfl))⟩
 f47:=Tryz.func145.trans (congrArg some (by kernel_rfl))
 f48:=Tryz.func146.trans (congrArg some (by kernel_rfl))
 f49:=⟨Tryz.f147.name,by decide,Tryz.func147.trans (congrArg some (by kernel_rfl))⟩
 f50:=⟨Tryz.f148.name,by decide,Tryz.func148.trans (congrArg some (by kernel_rfl))⟩
 f57:=⟨Tryz.f149.name,by decide,Tryz.func149.trans (congrArg some (by kernel_rfl))⟩
 t0:=Tryz.underlying0
 a0:=Tryz.isAgg0
 z0:=Tryz.sizeOf0
 v0:=Tryz.zeroValue0
 t3:=Tryz.underlying3
 a3:=Tryz.isAgg3
 z3:=Tryz.sizeOf3
 v3:=Tryz.zeroValue3
 t4:=Tryz.underlying4
 a4:=Tryz.isAgg4
 z4:=Tryz.sizeOf4
 v4:=Tryz.zeroValue4
 t5:=Tryz.underlying5
 a5:=Tryz.isAgg5
 z5:=Tryz.sizeOf5
 v5:=Tryz.zeroValue5
 t9:=Tryz.underlying9
 a9:=Tryz.isAgg9
 z9:=Tryz.sizeOf9
 v9:=Tryz.zeroValue9
 t22:=Tryz.underlying162
 a22:=Tryz.isAgg162
 z22:=Tryz.sizeOf162
 v22:=Tryz.zeroValue162
 t25:=Tryz.underlying226
 a25:=Tryz.isAgg226
 z25:=Tryz.sizeOf226
 v25:=Tryz.zeroValue226
 t39:=Tryz.underlying152
 a39:=Tryz.isAgg152
 z39:=Tryz.sizeOf152
 v39:=Tryz.zeroValue152
 t45:=Tryz.underlying233
 a45:=Tryz.isAgg233
 z45:=Tryz.sizeOf233
 v45:=Tryz.zeroValue233
 t46:=Tryz.underlying234
 a46:=Tryz.isAgg234
 z46:=Tryz.sizeOf234
 v46:=Tryz.zeroValue234
 t50:=Tryz.underlying28
 a50:=Tryz.isAgg28
 z50:=Tryz.sizeOf28
 v50:=Tryz.zeroValue28
 t53:=Tryz.underlying240
 a53:=Tryz.isAgg240
 z53:=Tryz.sizeOf240
 v53:=Tryz.zeroValue240
 t55:=Tryz.underlying242
 a55:=Tryz.isAgg242
 z55:=Tryz.sizeOf242
 v55:=Tryz.zeroValue242
 t66:=Tryz.underlying243
 a66:=Tryz.isAgg243
 z66:=Tryz.sizeOf243
 v66:=Tryz.zeroValue243
 t70:=Tryz.underlying94
 a70:=Tryz.isAgg94
 z70:=Tryz.sizeOf94
 v70:=Tryz.zeroValue94
 t76:=Tryz.underlying248
 a76:=Tryz.isAgg248
 z76:=Tryz.sizeOf248
 v76:=Tryz.zeroValue248
 t77:=Tryz.underlying249
 a77:=Tryz.isAgg249
 z77:=Tryz.sizeOf249
 v77:=Tryz.zeroValue249 }
def WZ:Go.Shelf.Ren:=⟨λ| 5=>132 | 7=>143 | n=>n,λ| 22=>3 | 3=>3 | 4=>4 | n=>n,λ| n=>n⟩
theorem amI:Go.Proofs.SlLaysC2.n5 Tryz.prog WZ:={
 mixed:=by kernel_rfl
 f5:=⟨Tryz.f132.name,by decide,Tryz.func132.trans (congrArg some (by kernel_rfl))⟩
 f7:=⟨Tryz.f143.name,by decide,Tryz.func143.trans (congrArg some (by kernel_rfl))⟩
 t3:=Tryz.underlying3
 a3:=Tryz.isAgg3
 z3:=Tryz.sizeOf3
 v3:=Tryz.zeroValue3
 t4:=Tryz.underlying4
 a4:=Tryz.isAgg4
 z4:=Tryz.sizeOf4
 v4:=Tryz.zeroValue4
 t22:=Tryz.underlying3
 a22:=Tryz.isAgg3
 z22:=Tryz.sizeOf3
 v22:=Tryz.zeroValue3 }
end
open Go.Shelf
open ChangeShapes WideShapes ChangeAt RowKit
open Go.Sort (HoldsK PermIn SortedIn SWO grow)
instance:Inhabited fV:=⟨⟨0,0⟩⟩
def Mg (x y:fV):Int:=Lib.compareInt x.no y.no
theorem afz (x y:fV):ltOf Mg x y=decide (x.no<y.no):=by
 unfold ltOf Mg Lib.compareInt;by_cases h1:x.no<y.no
 ·simp [h1]
 by_cases h2:y.no<x.no<;>simp [h1,h2]
theorem aqU:SWO (ltOf Mg) where
 irrefl x:=by rw [afz];simp
 trans x y z h1 h2:=by rw [afz] at*;simp at*;omega
 ntrans x y z h1 h2:=by rw [afz] at*;simp at*;omega
theorem W9 (x y:fV) (W:World):Calls Tryz.prog 127 #[.agg #[.int .i64 x.no,.int .i64 x.body],.agg #[.int .i64 y.no,.int .i64 y.body]] W λe w'=>e= .returned (.int .i64 (Mg x y))/\ ∃ q os',w'=grow (W.drewN q) os':=by
 have hcon:=λW'=>AnyG.cmp_Compare_int amI x.no y.no W';change ∀ W',Calls Tryz.prog 132 _ _ _ at hcon;unfold Mg;generalize Lib.compareInt x.no y.no=r at hcon⊢
 go_enter Tryz.func127,Tryz.ntmps127
 go_wp2_with (go_at_call 132;refine (hcon _).mono ?_;rintro e w' ⟨rfl,rfl⟩)
 go_ret
 exact ⟨rfl,0,_,by rw [Go.Sort.alloc_eq_grow,Go.Sort.alloc_eq_grow,Go.Sort.grow_grow];rfl⟩
theorem amJ: ∀ w,(isAgg 209).run Tryz.prog w= .ok true w:=by
 intro w;simp [isAgg,run_underlying Tryz.underlying209,Sem.run_bind,Result.andThen]
theorem ahA: ∀ w,(Go.sizeOf 209).run Tryz.prog w= .ok 2 w:=by
 intro w;obtain ⟨z,hq,hs⟩: ∃ z,Tryz.prog.info? 209=some z/\z.size=2:=by
  have h:=E5
  cases hi:Tryz.prog.info? 209 with
  | none=>simp [hi] at h
  | some z=>exact ⟨z,rfl,by simpa [hi] using h⟩
 simp [sizeOf,typeInfo,hq,hs,Sem.run_bind,Result.andThen]
def qX (l:List fV):Prop:=l.Pairwise λa b=>a.no<=b.no
theorem TQ (A:Option Addr) (c:Nat) (rs:List fV) (w:World) {B:Nat} (ho:w.ownsRow B 209 2 (.slice A rs.length c) rs.length (rs.flatMap fV.cells)) (hl:rs.length<=1000000):
  Calls Tryz.prog 126 #[.slice A rs.length c,.func (.func 127) #[] #[]] w λe w'=>e= .returned (.tuple #[])/\ ∃ d:List fV,d.Perm rs/\qX d/\
   w'.ownsRow B 209 2 (.slice A rs.length c) rs.length (d.flatMap fV.cells)/\w.grownBy w' (Value.slice A rs.length c).ownBlock:=by
 rcases Nat.eq_zero_or_pos rs.length with h0 | h0
 ·have e0:rs=[]:=List.length_eq_zero_iff.1 h0;subst e0;refine (AnyF.slices_SortFunc_none YB A c (.func (.func 127) #[] #[]) w).mono ?_;rintro e w' ⟨rfl,rfl⟩;exact ⟨rfl,[],List.Perm.refl _,List.Pairwise.nil,ho,⟨rfl,rfl,rfl,Nat.le_refl _,λ_ _ _=>rfl⟩⟩
 obtain ⟨g,rfl⟩:=Em ho h0;have hg:g<w.heap.size:=Ed ho g rfl;have hH:=ZH (enc:=fV.cells) (k:=2) (λ_=>rfl) ho rfl;have hcon:=AnyQ.slices_SortFunc YB 2 amJ ahA fV.cells (λ_=>rfl) (λx v hv=>by simp [fV.cells] at hv;rcases hv with rfl | rfl<;>rfl) Mg aqU 127 #[] g 0 c rs.toArray w as5 (λ_ _ _ _ x y=>W9 x y _) hH hg (by simp;omega);change Calls Tryz.prog 126 _ _ _ at hcon;rw [List.size_toArray] at hcon;refine hcon.mono ?_;rintro e w' ⟨rfl,d',m,os,hp,hs,rfl⟩;obtain ⟨p1,_,p3⟩:=hp
 replace p1:d'.size=rs.length:=p1
 obtain ⟨q1,q2⟩:=WU (enc:=fV.cells) (k:=2) (d':=d') (m:=m) (os:=os) (λ_=>rfl) ho p1;refine ⟨rfl,d'.toList,?_,?_,q1,q2⟩
 ·have e1:d'.extract 0 rs.length=d':=by rw [<-p1];exact Array.extract_size
  have e2:rs.toArray.extract 0 rs.length=rs.toArray:=by simp
  rw [e1,e2] at p3;simpa using p3
 unfold qX;rw [List.pairwise_iff_getElem];intro i j hi hj hij;rw [Array.length_toList] at hi hj;have h:=hs i j (Nat.zero_le _) hij (by omega);rw [afz,getElem!_pos d' j hj,getElem!_pos d' i hi] at h;simp only [Array.getElem_toList];simpa using h
theorem AV (m:fV): ∀ l:List fV,(jP m l).Perm (m::l)
 | []=>List.Perm.refl _
 | x::l=>by
  unfold jP
  split
  ·exact List.Perm.refl _
  exact ((AV m l).cons x).trans (List.Perm.swap m x l)
theorem KJ {m:fV}: ∀ {l:List fV},qX l->qX (jP m l)
 | [],_=>by simp [jP,qX]
 | x::l,h=>by
  obtain ⟨h1,h2⟩:=List.pairwise_cons.1 h;unfold jP
  split
  ·rename_i hlt
   refine List.pairwise_cons.2 ⟨λy hy=>?_,h⟩
   rcases List.mem_cons.1 hy with e | e
   ·rw [e];omega
   have:=h1 y e;omega
  rename_i hlt
  refine List.pairwise_cons.2 ⟨λy hy=>?_,KJ h2⟩
  rcases List.mem_cons.1 ((AV m l).mem_iff.1 hy) with e | e
  ·rw [e];omega
  exact h1 y e
theorem Gg: ∀ (ls:List Ls) (rs:List fV),(ls.foldl (λl x=>jP x.msg l) rs).Perm (rs++ls.map (·.msg))
 | [],rs=>by simp
 | x::ls,rs=>by
  rw [List.foldl_cons,List.map_cons];refine (Gg ls (jP x.msg rs)).trans ?_;refine ((AV x.msg rs).append_right _).trans ?_;rw [List.cons_append];exact List.perm_middle.symm
theorem RX: ∀ (ls:List Ls) {rs:List fV},qX rs->qX (ls.foldl (λl x=>jP x.msg l) rs)
 | [],_,h=>h
 | _::ls,_,h=>RX ls (KJ h)
theorem adV {rs d:List fV} {ls:List Ls} (hp:d.Perm (rs++ls.map (·.msg))) (ha:qX d) (hA:qX rs) (hN:(nH rs ls).Nodup):d=ls.foldl (λl x=>jP x.msg l) rs:=by
 have hF:=Gg ls rs;have hnd:((rs++ls.map (·.msg)).map (·.no)).Nodup:=by
  unfold nH at hN;rw [List.map_append,List.map_map];exact hN
 refine List.Perm.eq_of_pairwise (le:=λa b:fV=>a.no<=b.no) (λa b ha' hb' h1 h2=>?_) ha (RX ls hA) (hp.trans hF.symm);have m1:=hp.mem_iff.1 ha';have m2:=hF.mem_iff.1 hb';have e:a.no=b.no:=by omega
 have:=List.pairwise_map.1 hnd;obtain ⟨i,hi,e1⟩:=List.getElem_of_mem m1;obtain ⟨j,hj,e2⟩:=List.getElem_of_mem m2;rw [List.pairwise_iff_getElem] at this
 rcases Nat.lt_trichotomy i j with h | h | h
 ·exact absurd (by rw [e1,e2];exact e) (this i j hi hj h)
 ·subst h;rw [<-e1,<-e2]
 exact absurd (by rw [e1,e2];exact e.symm) (this j i hj hi h)
end
section
open ChangeShapes WideShapes RowKit
def dX:Qd:=⟨0,0,0,[],[],jy⟩
def Qd.row (Q:Qd) (A1:Option Addr) (c1:Nat) (A2:Option Addr) (c2:Nat):Array Value:=cZ Q.ep Q.nx Q.gv (.slice A1 Q.ready.length c1) (.slice A2 Q.bO.length c2) Q.ws
noncomputable def Qd.fault (Q:Qd):Int:=fQ Q.ep Q.nx Q.gv Q.ready Q.bO Q.ws
def stepM (Q:Qd) (e:Ev):Qd×jc×Bool:=
 if e.kind=1 then Cu Q e.producer.toNat e.id e.body else if e.kind=2 then IG Q else if e.kind=3 then Ga Q e.aR e.hno else Li Q
noncomputable def iN (Q:Qd) (e:Ev):Qd×jc×Bool×Int:=
 if Q.fault≠0 then (dX,eP,false,Q.fault) else if bD e≠0 then (dX,eP,false,bD e) else ((stepM Q e).1,(stepM Q e).2.1,(stepM Q e).2.2,0)
def ahB (w:World) (r:Qd×jc×Bool×Int) (e:Ending) (w':World):Prop:= ∃ A1 c1 A2 c2,e= .returned (.tuple #[.agg (cZ r.1.ep r.1.nx r.1.gv (.slice A1 r.1.ready.length c1) (.slice A2 r.1.bO.length c2) r.1.ws),r.2.1.val,.bool r.2.2.1,.int .i64 r.2.2.2])/\
 St w.heap.size w w' [.cB 2 A1 r.1.ready.length (r.1.ready.flatMap fV.cells),.cB 4 A2 r.1.bO.length (r.1.bO.flatMap Ls.cells)]
section
variable {ep nx gv p:Int} {rs:List fV} {ls:List Ls} {W:jX}
theorem O8 (h:fQ ep nx gv rs ls W=0):QY ep nx gv rs ls/\zx W/\jN nx (-1) rs=true/\kV ep nx gv (-1) ls=true/\(nH rs ls).Nodup:=by
 unfold fQ at h
 split at h
 ·cases h
 split at h
 ·cases h
 split at h
 ·rename_i h1 h2 h3
  exact ⟨Classical.not_not.1 h1,Classical.not_not.1 h2,h3⟩
 cases h
theorem acO: ∀ {rs:List fV} {p:Int},jN nx p rs=true->(∀ x∈rs,p<x.no)/\rs.Pairwise λa b=>a.no<b.no
 | [],_,_=>⟨λx hx=>by simp at hx,List.Pairwise.nil⟩
 | m::r,p,h=>by
  simp only [jN,Bool.and_eq_true,decide_eq_true_eq] at h;obtain ⟨⟨_,h1⟩,h2⟩:=h;obtain ⟨h3,h4⟩:=acO h2;refine ⟨λx hx=>?_,List.pairwise_cons.2 ⟨h3,h4⟩⟩
  rcases List.mem_cons.1 hx with rfl | hx
  ·exact h1
  exact Int.lt_trans h1 (h3 x hx)
theorem ahC (h:jN nx (-1) rs=true):qX rs:=(acO h).2.imp λh=>Int.le_of_lt h
theorem abY: ∀ {ls:List Ls} {p:Int},kV ep nx gv p ls=true->(∀ x∈ls,x.eD=ep/\p<x.hno)/\ls.Pairwise λa b=>a.hno<b.hno
 | [],_,_=>⟨λx hx=>by simp at hx,List.Pairwise.nil⟩
 | m::r,p,h=>by
  simp only [kV,Lh,Bool.and_eq_true,decide_eq_true_eq] at h;obtain ⟨⟨_,h0,h1,_⟩,h2⟩:=h;obtain ⟨h3,h4⟩:=abY h2;refine ⟨λx hx=>?_,List.pairwise_cons.2 ⟨λx hx=>(h3 x hx).2,h4⟩⟩
  rcases List.mem_cons.1 hx with rfl | hx
  ·exact ⟨h0,h1⟩
  exact ⟨(h3 x hx).1,Int.lt_trans h1 (h3 x hx).2⟩
theorem amK (h:kV ep nx gv (-1) ls=true): ∀ x∈ls,x.eD=ep:=λx hx=>((abY h).1 x hx).1
theorem amL (h:kV ep nx gv (-1) ls=true): ∀ (i j:Nat) (a b:Ls),ls[i]? =some a->ls[j]? =some b->a.hno=b.hno->i=j:=by
 have hp:=(abY h).2;rw [List.pairwise_iff_getElem] at hp;intro i j a b ha hb e;obtain ⟨hi,rfl⟩:=List.getElem?_eq_some_iff.1 ha;obtain ⟨hj,rfl⟩:=List.getElem?_eq_some_iff.1 hb
 rcases Nat.lt_trichotomy i j with h1 | h1 | h1
 ·have:=hp i j hi hj h1;omega
 ·exact h1
 have:=hp j i hj hi h1;omega
theorem ahD {e:Ev} (h:bD e=0):1<=e.kind/\e.kind<=4:=by
 unfold bD at h
 split at h
 ·cases h
 rename_i h1
 exact Classical.not_not.1 h1
theorem YC {e:Ev} (h:bD e=0):0<=e.producer/\e.producer<=3:=by
 unfold bD at h
 split at h
 ·cases h
 split at h
 ·cases h
 rename_i h1 h2
 split at h
 ·cases h
 split at h
 ·cases h
 rename_i h3 h4
 by_cases hk:e.kind=1
 ·have h5:=Classical.not_not.1 (λh6=>h2 ⟨hk,h6⟩);simp only [Bool.and_eq_true,jW,decide_eq_true_eq] at h5;omega
 have h5:=Classical.not_not.1 (λh6=>h4 ⟨hk,h6⟩);omega
end
section
variable {Q:Qd} {e:Ev}
theorem Qj (h:Q.fault≠0):iN Q e=(dX,eP,false,Q.fault):=if_pos h
theorem Vv (h:Q.fault=0) (h1:bD e≠0):iN Q e=(dX,eP,false,bD e):=by
 unfold iN;rw [if_neg (λh2=>h2 h),if_pos h1]
theorem Cx (h:Q.fault=0) (h1:bD e=0):iN Q e=((stepM Q e).1,(stepM Q e).2.1,(stepM Q e).2.2,0):=by
 unfold iN;rw [if_neg (λh2=>h2 h),if_neg (λh2=>h2 h1)]
end
noncomputable def ig:Qd->List jc->List Ev->Option (Qd×List jc)
 | Q,an,[]=>some (Q,an)
 | Q,an,e::r=>if (iN Q e).2.2.2=0/\(iN Q e).2.2.1=true then ig (iN Q e).1 (an++[(iN Q e).2.1]) r else none
noncomputable def aH (l:List Ev):Qd×List jc×Int:=
 if 2000<l.length then (dX,[],1) else match ig dX [] l with
  | some r=>(r.1,r.2,0)
  | none=>(dX,[],3)
section
variable {Q:Qd} {an:List jc} {l:List Ev} {e:Ev} {k:Nat}
theorem TR (h:l[k]? =some e) (h0:(iN Q e).2.2.2=0) (h1:(iN Q e).2.2.1=true):ig Q an (l.drop k)=ig (iN Q e).1 (an++[(iN Q e).2.1]) (l.drop (k+1)):=by
 obtain ⟨hk,hm⟩:=List.getElem?_eq_some_iff.1 h;rw [List.drop_eq_getElem_cons hk,hm,ig,if_pos ⟨h0,h1⟩]
theorem TS (h:l[k]? =some e) (h0: ¬ ((iN Q e).2.2.2=0/\(iN Q e).2.2.1=true)):ig Q an (l.drop k)=none:=by
 obtain ⟨hk,hm⟩:=List.getElem?_eq_some_iff.1 h;rw [List.drop_eq_getElem_cons hk,hm,ig,if_neg h0]
theorem Xa (h:l.length<=k):ig Q an (l.drop k)=some (Q,an):=by
 rw [List.drop_eq_nil_of_le h];rfl
theorem NR (h:2000<l.length):aH l=(dX,[],1):=if_pos h
theorem Es {r:Qd×List jc} (h: ¬ 2000<l.length) (h1:ig dX [] l=some r):aH l=(r.1,r.2,0):=by
 unfold aH;rw [if_neg h,h1]
theorem JY (h: ¬ 2000<l.length) (h1:ig dX [] l=none):aH l=(dX,[],3):=by
 unfold aH;rw [if_neg h,h1]
theorem fZ (h:(aH l).2.2=0):l.length<=2000:=by
 unfold aH at h
 split at h
 ·cases h
 omega
theorem adW:(stepM Q e).1.ready.length+(stepM Q e).1.bO.length<=Q.ready.length+Q.bO.length+1:=by
 unfold stepM
 split
 ·unfold Cu;split; · dsimp only;omega
  split; · dsimp only;omega
  split; · dsimp only;omega
  simp only [List.length_append,List.length_cons,List.length_nil];omega
 split
 ·obtain ⟨ep,nx,gv,rs,ls,W⟩:=Q
  cases rs with
  | nil=>simp [IG]
  | cons m r=>simp only [IG];split<;>simp<;>omega
 split
 ·unfold Ga;split; · dsimp only;omega
  split; · dsimp only;omega
  have:=List.length_filter_le (λx:Ls=>decide (x.hno≠e.hno)) Q.bO;simp only;omega
 unfold Li;split; · dsimp only;omega
 have h:=(Gg Q.bO Q.ready).length_eq;rw [List.length_append,List.length_map] at h;simp only [List.length_nil];omega
theorem acP (h:(iN Q e).2.2.2=0):(iN Q e).1.ready.length+(iN Q e).1.bO.length<=501:=by
 by_cases h0:Q.fault=0
 ·by_cases h1:bD e=0
  ·rw [Cx h0 h1];have h2:=(O8 h0).1;unfold QY at h2;have:=adW (Q:=Q) (e:=e);simp only;omega
  rw [Vv h0 h1];simp [dX]
 rw [Qj h0];simp [dX]
theorem Dm: ∀ {l:List Ev} {Q:Qd} {an:List jc} {r:Qd×List jc},Q.ready.length+Q.bO.length<=501->ig Q an l=some r->r.1.ready.length+r.1.bO.length<=501/\r.2.length=an.length+l.length
 | [],Q,an,r,hQ,h=>by
  simp only [ig,Option.some.injEq] at h;subst h;exact ⟨hQ,by simp⟩
 | e::l,Q,an,r,hQ,h=>by
  rw [ig] at h
  split at h
  ·rename_i hc
   obtain ⟨h1,h2⟩:=Dm (acP hc.1) h;exact ⟨h1,by rw [h2];simp;omega⟩
  cases h
theorem Xb:(aH l).1.ready.length+(aH l).1.bO.length<=501:=by
 unfold aH
 split
 ·simp [dX]
 split
 ·rename_i r hr
  exact (Dm (by simp [dX]) hr).1
 simp [dX]
end
structure bK where
 role:Int
 ep:Int
 fr:Int
 tg:Int
 rd:Int
 evs:List Ev
 deriving DecidableEq
def bG:bK:=⟨0,0,0,0,0,[]⟩
def aP:Ev:=⟨4,0,0,0,0,0⟩
def bF (b:bK):Prop:=(b.role=0/\0<=b.ep/\b.ep<=1048576/\b.fr=0/\b.tg=0/\b.rd=0/\b.evs.length=0)\/(1<=b.ep/\b.ep<=1048576/\
 ((b.role=1/\b.fr=0/\b.tg=0/\b.rd=0)\/(b.role=2/\b.fr=0/\0<=b.tg/\b.tg<5/\0<=b.rd/\b.rd<=4)\/(b.role=3/\b.fr=0/\0<=b.tg/\b.tg<5/\b.rd=0)\/(b.role=4/\0<=b.fr/\b.fr<5/\b.tg=0/\b.rd=0)))
instance (b:bK):Decidable (bF b):=by unfold bF;exact inferInstance
open Classical in
noncomputable def au (b:bK):Int:=if bF b/\(aH b.evs).2.2=0 then 0 else 6
section
variable {b:bK}
theorem mo (h:bF b) (h1:(aH b.evs).2.2=0):au b=0:=if_pos ⟨h,h1⟩
theorem JZ (h: ¬ bF b):au b=6:=if_neg λh1=>h h1.1
theorem O9 (h: ¬ (aH b.evs).2.2=0):au b=6:=if_neg λh1=>h h1.2
theorem dS (h:au b=0):bF b/\(aH b.evs).2.2=0:=by
 unfold au at h
 split at h
 ·assumption
 cases h
end
noncomputable def gK (b:bK) (e:Ev):bK×jc×Bool×Int:=
 if au b≠0 then (bG,eP,false,au b) else if bD e≠0 then (bG,eP,false,bD e) else if e.kind=4 then (bG,eP,false,3)
 else if b.role=3 then (b,rX 12,false,0) else if b.role≠1/\b.role≠2 then (b,rX 7,false,0)
 else if (iN (aH b.evs).1 e).2.2.1=false then (b,(iN (aH b.evs).1 e).2.1,false,0)
 else if 1999<=b.evs.length then (b,rX 14,false,0) else ({ b with evs:=b.evs++[e] },(iN (aH b.evs).1 e).2.1,true,0)
noncomputable def iZ (b:bK) (ep:Int):bK×Int:=
 if au b≠0 then (bG,au b) else if ¬ (1<=ep/\ep<=1048576) then (bG,2) else if b.role≠0 then (bG,8) else if ep<=b.ep then (bG,15) else (⟨1,ep,0,0,0,[]⟩,0)
noncomputable def zX (b:bK) (tg:Int):bK×Int:=
 if au b≠0 then (bG,au b) else if ¬ (0<=tg/\tg<=4) then (bG,2) else if b.role=2\/b.role=3 then (bG,12) else if b.role≠1 then (bG,7)
 else if b.ep=1048576 then (bG,14) else (⟨2,b.ep,0,tg,0,b.evs⟩,0)
noncomputable def bP (b:bK) (hv:Int):bK×Int:=
 if au b≠0 then (bG,au b) else if b.role≠2/\b.role≠3 then (bG,7) else if ¬ (0<=hv/\hv<=b.evs.length) then (bG,2)
 else if b.role=3 then (b,0) else if hv=b.evs.length\/b.rd=4 then ({ b with role:=3,rd:=0 },0) else ({ b with rd:=b.rd+1 },0)
noncomputable def iI (b:bK) (hv:Int):List Ev×Bool×Int:=
 if au b≠0 then ([],false,au b) else if b.role≠2/\b.role≠3 then ([],false,7) else if ¬ (0<=hv/\hv<=b.evs.length) then ([],false,2)
 else ((b.evs.drop hv.toNat).take 3,decide (b.role=3/\b.evs.length<=hv.toNat+3),0)
noncomputable def dB (b:bK) (ep fr:Int):bK×Int:=
 if au b≠0 then (bG,au b) else if ¬ (1<=ep/\ep<=1048576/\0<=fr/\fr<=4) then (bG,2) else if b.role≠0/\b.role≠4 then (bG,8)
 else if b.role=4/\b.ep=ep/\b.fr=fr then (b,0) else if ep<=b.ep then (bG,15) else (⟨4,ep,fr,0,0,[]⟩,0)
noncomputable def dh (b:bK) (ep at_:Int) (l:List Ev) (last:Bool):bK×Int:=
 if au b≠0 then (bG,au b) else if b.role≠4 then (bG,7) else if b.ep≠ep then (bG,15) else if ¬ (0<=at_/\at_<=b.evs.length) then (bG,2)
 else if ¬ (b.evs.drop at_.toNat).take l.length=l.take (b.evs.length-at_.toNat) then (bG,3)
 else if last=true/\at_.toNat+l.length<b.evs.length then (bG,3)
 else if au (if last=true then ⟨1,ep,0,0,0,b.evs++l.drop (b.evs.length-at_.toNat)++[aP]⟩ else { b with evs:=b.evs++l.drop (b.evs.length-at_.toNat) })≠0 then (bG,3)
 else (if last=true then ⟨1,ep,0,0,0,b.evs++l.drop (b.evs.length-at_.toNat)++[aP]⟩ else { b with evs:=b.evs++l.drop (b.evs.length-at_.toNat) },0)
noncomputable def gB (b:bK) (ep:Int):bK×Int:=
 if au b≠0 then (bG,au b) else if b.role≠3 then (bG,7) else if ep<=b.ep then (bG,15) else (⟨0,b.ep,0,0,0,[]⟩,0)
noncomputable def fu (b:bK):bK×Int:=
 if au b≠0 then (bG,au b) else if b.role≠1/\b.role≠2 then (b,0)
 else if au ⟨1,b.ep,0,0,0,b.evs++[aP]⟩≠0 then (bG,14) else (⟨1,b.ep,0,0,0,b.evs++[aP]⟩,0)
theorem kH {α:Type} {a b:α} (h:a=b:=by (repeat' (first | rfl | omega | split))<;>(simp only [Prod.mk.injEq,bK.mk.injEq,and_true,true_and,and_self];omega)):a=b:=h
end
section
abbrev bR (b:bK) (A:Option Addr) (c:Nat):Array Value:= #[iV b.role,iV b.ep,iV b.fr,iV b.tg,iV b.rd,.slice A b.evs.length c]
abbrev zB:Array Value:= #[iV 0,iV 0,iV 0,iV 0,iV 0,.slice none 0 0]
abbrev rR (k q e p:Int) (x:Ev):Array Value:= #[iV k,iV q,iV e,iV p,iV x.kind,iV x.producer,iV x.id,iV x.body,iV x.aR,iV x.hno]
end
section
open ChangeShapes WideShapes RowKit
theorem ZR {B g k c1 c2:Nat} {w0 w:World} {fs:List Fact} {A1 A2:Option Addr} {rs:List fV} {ls:List Ls} {W:jX} {ep nx gv kd id bd he hn:Int} (S:St B w0 w (.blk g (cZ ep nx gv (.slice A1 rs.length c1) (.slice A2 ls.length c2) W) 206:: .own 209 2 (.slice A1 rs.length c1) rs.length ((rs).flatMap fV.cells):: .own 212 4 (.slice A2 ls.length c2) ls.length ((ls).flatMap Ls.cells)::fs)) (hk:k<4) (hlen:rs.length+ls.length<=500) (hnx:0<=nx/\nx<=1073741824) (hgv:0<=gv/\gv<=1073741824) (eD:0<=ep/\ep<=1048576) (hA:qX rs) (hN:(nH rs ls).Nodup):
    Calls Tryz.prog 119 #[pV g 0,.agg #[iV kd,iV ((k:Nat):Int),iV id,iV bd,iV he,iV hn]] w (Eo B w0 g fs (Li ⟨ep,nx,gv,rs,ls,W⟩)):=by
 refine gu 63 Tryz.func119 ?_;refine cw [0,1] ?_;refine zN 2 ?_;refine iK S ?_;intro b1 w2 S3;refine fF S3 sW ?_;intro b4 w5 S6;refine zN 10 ?_;refine vv (aj rfl rfl (ay Tryz.underlying3 rfl (St.cl 2 S6 rfl xS))) ?_;by_cases h1:ep=1048576
 ·refine zN 6 ?_;refine vv (v:= .agg #[iV 14,iV 0,iV 0,iV 0]) gF ?_;refine sa 0 S6 dx ?_;intro w7 S8;refine zN 6 ?_;have S9:=S8.aS [1,0];have oG:=S9.bH 1 rfl;have qw:=oG.bH 2 rfl;rw [adN h1];refine ⟨rfl,A1,c1,A2,c2,?_⟩;dsimp only;exact qw
 refine zN 13 ?_;refine vv (aj rfl rfl (ay Tryz.underlying163 rfl (St.cl 2 S6 rfl sZ))) ?_;refine zN 5 ?_;refine dN (X:=Nat×(Option Addr)×Nat) (λxv=>[(0,pV g 0),(4,pV b4 0),(5,.bool false),(19,.slice A2 ls.length c2),(20,iV ((ls.length:Nat):Int)),(21,iV ((xv.1:Nat):Int))]) (λxv wr=>(xv.1<=ls.length)/\St B w0 wr ((.blk b4 #[iV 0,iV 0,iV 0,iV 0] 101)::(.blk b1 #[iV kd,iV ((k:Nat):Int),iV id,iV bd,iV he,iV hn] 53)::(.blk g (cZ ep nx gv (.slice xv.2.1 (rs.length+xv.1) xv.2.2) (.slice A2 ls.length c2) W) 206)::(.own 209 2 (.slice xv.2.1 (rs.length+xv.1) xv.2.2) (rs.length+xv.1) ((rs++(ls.take xv.1).map (·.msg)).flatMap fV.cells))::(.own 212 4 (.slice A2 ls.length c2) ls.length ((ls).flatMap Ls.cells))::fs)) (λxv=>ls.length-xv.1) (0,A1,c1) ?_ ?_ ?_
 ·exact ⟨Nat.zero_le _,by dsimp only;rw [show rs++(ls.take 0).map (·.msg)=rs by simp];exact S6⟩
 ·exact ⟨rfl,rfl,rfl,rfl,rfl,rfl,trivial⟩
 rintro ⟨q,Ab,cb⟩ ZE ⟨Lm,wD⟩
 try dsimp only at Lm wD
 refine bC (l':=[(0,pV g 0),(4,pV b4 0),(5,.bool false),(19,.slice A2 ls.length c2),(20,iV ((ls.length:Nat):Int)),(21,iV ((q:Nat):Int))]) ⟨rfl,rfl,rfl,rfl,rfl,rfl,trivial⟩ (aK (aC ?_));by_cases h15:((q:Nat):Int)< ((ls.length:Nat):Int)
 ·refine zN 11 ?_;obtain ⟨b16,o17,rfl⟩:=Rd.addr (St.ord 4 wD rfl) (by omega);obtain ⟨x18,Et⟩:=KG q (St.ord 4 wD rfl) (by omega);refine vv (jd q) ?_;refine vv (aj rfl rfl (aA (cs:=Ls.cells x18) Tryz.underlying212 rfl Ic rfl (Rd.vQ (St.ord 4 wD rfl) (λ_ _ h=>aZ (enc:=Ls.cells) (sz:=4) (λ_=>rfl) Et h)))) ?_;refine fF wD anE ?_;intro b20 DL iW;refine sa 0 iW Ic ?_;intro Js jB;refine zN 2 ?_;have jA:=jB.drew;refine fq 14 10 jA [4] ?_;iterate 5 refine gM ?_
  refine gk (v:= .slice Ab (rs.length+q) cb) 5 rfl (St.del 4 jA) (λ_ ZT=>(aj rfl rfl (ay Tryz.underlying162 rfl (St.cl 3 ZT rfl pz)))) ?_;refine gM ?_;refine gk (v:= .agg #[iV x18.msg.no,iV x18.msg.body]) 7 rfl (St.del 4 jA) (λ_ ajO=>(aj rfl rfl (aA (cs:=[iV x18.msg.no,iV x18.msg.body]) Tryz.underlying209 rfl E5 rfl (St.rg 0 ajO rfl (nS (x:=2) (m:=2) rfl))))) ?_;refine eU (m:=5) (r:=8) (by kernel_rfl) ?_;refine lQ (i:=8) rfl rfl (V:=λb=> .slice (aD b 0) 1 1) (row:= #[iV x18.msg.no,iV x18.msg.body]) (t:=209) jA (wn rfl) rfl rfl (aV (vs:=[(0,.agg #[iV x18.msg.no,iV x18.msg.body])]) rfl ⟨rfl,rfl,trivial⟩ (by kernel_rfl)) ?_;intro b34 Yp nW;refine gM ?_;refine eU (m:=4) (r:=9) (by kernel_rfl) ?_;refine kM (i:=9) rfl rfl (news:=[iV x18.msg.no,iV x18.msg.body]) (xs':=(rs++(ls.take (q+1)).map (·.msg)).flatMap fV.cells) 5 nW (wn rfl) rfl rfl rfl rfl rfl rfl (St.lY (xs:=[iV x18.msg.no,iV x18.msg.body]) 0 nW rfl rfl rfl) Tryz.underlying162 UC rfl (by decide) (bX rfl) (by simp only [maxLen];omega) (by omega) (jO (enc:=fV.cells) (by rw [List.append_assoc,JX (f:=λx:Ls=>x.msg) Et]) rfl) ?_;intro A37 c38 YD azf azg rJ;refine gM ?_;refine dY (by kernel_rfl) rfl rfl rfl ?_;refine zN 3 ?_;refine jw 4 rJ PZ ?_ (hs:=by exact IB);intro w43 Fj;refine zQ ?_;refine iP ?_;refine zN 3 ?_;refine vv (v:=iV ((q+1:Nat):Int)) gD ?_;refine zN 2 ?_;have oH:=Fj.aS [1,0];refine aN (q+1,A37,c38) ?_ ⟨rfl,rfl,rfl,rfl,rfl,rfl,trivial⟩ (by first | omega | (dsimp only;omega));exact ⟨(by dsimp only;omega),oH⟩
 refine zN 12 ?_;obtain rfl:q=ls.length:=by omega
 have nI:=wD;rw [List.take_length] at nI;refine zN 4 ?_;refine vv (aj rfl rfl (ay Tryz.underlying162 rfl (St.cl 2 nI rfl pz))) ?_;have hml:(rs++ls.map (·.msg)).length=rs.length+ls.length:=by simp
 have HS:=λA c w (ho:World.ownsRow w B 209 2 (.slice A (rs++ls.map (·.msg)).length c) (rs++ls.map (·.msg)).length ((rs++ls.map (·.msg)).flatMap fV.cells))=>TQ A c (rs++ls.map (·.msg)) w ho (by omega);rw [hml] at HS;refine dH as4 (HS Ab cb _ (nI.own 3 rfl)) ?_;rintro _ w47 ⟨rfl,d49,anO,at5,anP,anQ⟩;refine ⟨_,rfl,?_⟩;have vH:=nI.append 3 rfl anQ anP (.inl rfl);have hdl:=adV anO at5 hA hN;clear HS anP anQ nI;refine zN 8 ?_;refine jw 2 vH P5 ?_ (hs:=by exact IC);intro ZU uS;refine zN 8 ?_;refine vv (aj rfl rfl (ay Tryz.underlying3 rfl (St.cl 2 uS rfl xS))) ?_;refine vv (v:=iV (ep+1)) gD ?_;refine zN 3 ?_;refine jw 2 uS lH ?_ (hs:=by exact ahj);intro w56 pW;refine zN 8 ?_;refine jw 2 pW lH ?_ (hs:=by exact Ym);intro w58 Bj;refine zN 5 ?_;refine sa 0 Bj dx ?_;intro YE Fp;refine zN 5 ?_;have Jt:=Fp.aS [1,0];have wE:=Jt.bH 1 rfl;have S64:=wE.seal 2 rfl Rd.none_ (λ(a:Addr) (h:(none:Option Addr)=some a)=>by cases h);have hln:d49.length=rs.length+ls.length:=by rw [anO.length_eq,hml]
 rw [amF h1,<-hdl];refine ⟨rfl,Ab,cb,none,0,?_⟩;dsimp only;rw [hln];exact S64
theorem Pb {t z:Int} {f:Nat->Bool}: ∀ {k:Nat},z∈jv t f k-> ∃ j,j<k/\f j=true/\z=t-8+j
 | 0,h=>by simp [jv] at h
 | k+1,h=>by
  unfold jv at h
  split at h
  ·rename_i hf
   rcases List.mem_append.1 h with h | h
   ·obtain ⟨j,h1,h2⟩:=Pb h;exact ⟨j,by omega,h2⟩
   rw [List.mem_singleton] at h;exact ⟨k,by omega,hf,h⟩
  obtain ⟨j,h1,h2⟩:=Pb h;exact ⟨j,by omega,h2⟩
theorem adX {t:Int} {bs:List Bool} {i:Nat} (hi:i<8):(abK t bs).at i=bs.getD i false:=by
 have h:i=0\/i=1\/i=2\/i=3\/i=4\/i=5\/i=6\/i=7:=by omega
 rcases h with rfl | rfl | rfl | rfl | rfl | rfl | rfl | rfl<;>rfl
theorem amM {x:kI} {id:Int} (h:(p8 x id).2=0):dK (Cn x id)=0:=by
 obtain ⟨h1,h2,h3⟩:=F5 h;have h0:=rV h1;have at6:=PI h1;have hx:ES x.top x.at=true:=by
  unfold dK at h1
  split at h1
  ·rename_i hh
   simp only [Bool.and_eq_true] at hh;exact hh.1.2
  cases h1
 have ht:(Cn x id).top=max x.top (id+1):=rfl;have hat: ∀ i,i<8->(Cn x id).at i=decide (max x.top (id+1)-8+i∈jv x.top x.at 8++[id]):=λi hi=>by
  unfold Cn;rw [adX hi,Wz _ _ _ hi]
 unfold dK;refine if_pos ?_;have hw:ES (Cn x id).top (Cn x id).at=true:=qQ.2 λk hk hb=>by
  rw [hat k hk,decide_eq_true_eq] at hb;rw [ht]
  rcases List.mem_append.1 hb with hb | hb
  ·obtain ⟨j,j1,j2,j3⟩:=Pb hb;have:=qQ.1 hx j j1 j2;omega
  rw [List.mem_singleton] at hb;omega
 have h7:(Cn x id).b7=true:=by
  show (Cn x id).at 7=true
  rw [hat 7 (by omega),decide_eq_true_eq];by_cases c:x.top<=id
  ·rw [show max x.top (id+1)=id+1 by omega];exact List.mem_append_right _ (by rw [List.mem_singleton];omega)
  rw [show max x.top (id+1)=x.top by omega];refine List.mem_append_left _ ?_
  rcases at6 with ⟨h4,_⟩ | ⟨_,h5,h6⟩
  ·omega
  have:=List.getLast_mem h5;rw [List.getLastD_eq_getLast?,List.getLast?_eq_some_getLast h5,Option.getD_some] at h6;rw [h6] at this;rwa [show x.top-8+((7:Nat):Int)=x.top-1 by omega]
 rw [hw,h7,ht];simp only [Bool.and_true,Bool.or_true,Bool.and_eq_true,decide_eq_true_eq];omega
theorem ahE {x:kI} {id:Int} (h:(iX x id).2.2=0) (h1:(iX x id).2.1=true):dK (iX x id).1=0:=by
 unfold iX at h h1⊢;by_cases c1:(p8 x id).2≠0
 ·rw [if_pos c1] at h;exact absurd h c1
 rw [if_neg c1] at h h1⊢;by_cases c2:(p8 x id).1=true
 ·rw [if_pos c2] at h1;cases h1
 rw [if_neg c2];exact amM (Classical.not_not.1 c1)
section
variable {ep nx gv p:Int} {rs:List fV} {ls:List Ls} {W:jX}
theorem DU: ∀ {rs:List fV} {p:Int},jN nx p rs=true↔(∀ x∈rs,qW nx x=true/\p<x.no)/\rs.Pairwise λa b=>a.no<b.no
 | [],p=>by simp [jN]
 | m::r,p=>by
  simp only [jN,Bool.and_eq_true,decide_eq_true_eq,DU (rs:=r),List.pairwise_cons,List.mem_cons,forall_eq_or_imp]
  constructor
  ·rintro ⟨⟨h1,h2⟩,h3,h4⟩;exact ⟨⟨⟨h1,h2⟩,λx hx=>⟨(h3 x hx).1,Int.lt_trans h2 (h3 x hx).2⟩⟩,λx hx=>(h3 x hx).2,h4⟩
  rintro ⟨⟨⟨h1,h2⟩,h3⟩,h4,h5⟩;exact ⟨⟨h1,h2⟩,λx hx=>⟨(h3 x hx).1,h4 x hx⟩,h5⟩
theorem Ju: ∀ {ls:List Ls} {p:Int},kV ep nx gv p ls=true↔(∀ x∈ls,qW nx x.msg=true/\x.eD=ep/\p<x.hno/\x.hno<gv)/\ls.Pairwise λa b=>a.hno<b.hno
 | [],p=>by simp [kV]
 | m::r,p=>by
  simp only [kV,Lh,Bool.and_eq_true,decide_eq_true_eq,Ju (ls:=r),List.pairwise_cons,List.mem_cons,forall_eq_or_imp]
  constructor
  ·rintro ⟨⟨h1,h2,h2',ajW⟩,h3,h4⟩;exact ⟨⟨⟨h1,h2,h2',ajW⟩,λx hx=>⟨(h3 x hx).1,(h3 x hx).2.1,Int.lt_trans h2' (h3 x hx).2.2.1,(h3 x hx).2.2.2⟩⟩,λx hx=>(h3 x hx).2.2.1,h4⟩
  rintro ⟨⟨⟨h1,h2,h2',ajW⟩,h3⟩,h4,h5⟩;exact ⟨⟨h1,h2,h2',ajW⟩,λx hx=>⟨(h3 x hx).1,(h3 x hx).2.1,h4 x hx,(h3 x hx).2.2.2⟩,h5⟩
theorem RY {nx':Int} {m:fV} (h:qW nx m=true) (hn:nx<=nx'):qW nx' m=true:=by
 have:=wY h;exact decide_eq_true (by omega)
theorem Qk (h:QY ep nx gv rs ls) (h1:zx W) (h2:jN nx (-1) rs=true) (h3:kV ep nx gv (-1) ls=true) (h4:(nH rs ls).Nodup):fQ ep nx gv rs ls W=0:=by
 unfold fQ;rw [if_neg (λe=>e h),if_neg (λe=>e h1),if_pos ⟨h2,h3,h4⟩]
theorem adY {k:Nat} {y:kI} (h:zx W) (hy:dK y=0) (hk:k<4):zx (W.put k y):=λj hj=>by
 have h0:=h 0 (by omega);have h1:=h 1 (by omega);have h2:=h 2 (by omega);have h3:=h 3 (by omega);have hk':k=0\/k=1\/k=2\/k=3:=by omega
 have hj':j=0\/j=1\/j=2\/j=3:=by omega
 rcases hk' with rfl | rfl | rfl | rfl<;>rcases hj' with rfl | rfl | rfl | rfl<;>first | exact hy | exact h0 | exact h1 | exact h2 | exact h3
theorem J2 {m:fV}: ∀ {l:List fV},(jP m l).Perm (m::l)
 | []=> .refl _
 | x::l=>by
  unfold jP
  split
  ·exact .refl _
  exact ((J2 (l:=l)).cons x).trans (.swap m x l)
theorem YF {m:fV}: ∀ {l:List fV},qX l->qX (jP m l)
 | [],_=>List.pairwise_singleton _ _
 | x::l,h=>by
  obtain ⟨h1,h2⟩:=List.pairwise_cons.1 h;unfold jP
  split
  ·rename_i hm
   refine List.pairwise_cons.2 ⟨λy hy=>?_,h⟩
   rcases List.mem_cons.1 hy with rfl | hy
   ·omega
   have:=h1 y hy;omega
  rename_i hm
  refine List.pairwise_cons.2 ⟨λy hy=>?_,YF h2⟩
  rcases List.mem_cons.1 (J2.mem_iff.1 hy) with rfl | hy
  ·omega
  exact h1 y hy
theorem NS: ∀ (ls:List Ls) (rs:List fV),(ls.foldl (λl x=>jP x.msg l) rs).Perm (rs++ls.map (·.msg))
 | [],rs=>by simp
 | x::ls,rs=>by
  refine (NS ls (jP x.msg rs)).trans ?_;refine (J2.append_right _).trans ?_;rw [List.map_cons];exact (List.perm_middle).symm
theorem RZ: ∀ (ls:List Ls) (rs:List fV),qX rs->qX (ls.foldl (λl x=>jP x.msg l) rs)
 | [],rs,h=>h
 | x::ls,rs,h=>RZ ls _ (YF h)
theorem Xc {l:List fV} (h:qX l) (hn:(l.map (·.no)).Nodup):l.Pairwise λa b=>a.no<b.no:=by
 have h2:l.Pairwise λa b=>a.no≠b.no:=List.pairwise_map.1 hn;exact (h.and h2).imp λh=>by omega
end
theorem adZ {Q:Qd} {e:Ev} (h:Q.fault=0) (he:bD e=0):(stepM Q e).1.fault=0:=by
 obtain ⟨hr,hw,h2,h3,h4⟩:=O8 h;have hp:=YC he;obtain ⟨ep,nx,gv,rs,ls,W⟩:=Q;dsimp only at hr hw h2 h3 h4;obtain ⟨r1,r2,r3,r4,r5,r6,r7⟩:=hr;obtain ⟨a1,a2⟩:=DU.1 h2;obtain ⟨b1,b2⟩:=Ju.1 h3;unfold stepM
 split
 ·unfold Cu
  split
  ·exact h
  split
  ·exact h
  split
  ·exact h
  rename_i k1 k2 k3 k4
  dsimp only at k2 k3 k4⊢;have hlt: ∀ z∈nH rs ls,z<nx:=λz hz=>by
   unfold nH at hz
   rcases List.mem_append.1 hz with hz | hz
   ·obtain ⟨x,hx,rfl⟩:=List.mem_map.1 hz;exact (wY (a1 x hx).1).2.1
   obtain ⟨x,hx,rfl⟩:=List.mem_map.1 hz;exact (wY (b1 x hx).1).2.1
  have hbd:0<=e.body/\e.body<=1000000:=by
   unfold bD at he
   repeat' split at he
   all_goals first
    | (cases he;done)
    | (simp only [jW,Bool.and_eq_true,decide_eq_true_eq,not_and,Classical.not_not] at*;omega)
  show fQ ep (nx+1) gv (rs++[⟨nx,e.body⟩]) ls (W.put e.producer.toNat (iX (W.at e.producer.toNat) e.id).1)=0
  refine Qk ⟨r1,r2,by omega,by omega,r5,r6,by rw [List.length_append,List.length_singleton];omega⟩ (adY hw (ahE (Classical.not_not.1 k2) (by simpa using k3)) (by omega)) (DU.2 ⟨λx hx=>?_,?_⟩) (Ju.2 ⟨λx hx=>⟨RY (b1 x hx).1 (by omega),(b1 x hx).2⟩,b2⟩) ?_
  ·rcases List.mem_append.1 hx with hx | hx
   ·exact ⟨RY (a1 x hx).1 (by omega),(a1 x hx).2⟩
   rw [List.mem_singleton] at hx;subst hx;exact ⟨decide_eq_true (by dsimp only;omega),by dsimp only;omega⟩
  ·refine List.pairwise_append.2 ⟨a2,List.pairwise_singleton _ _,λx hx y hy=>?_⟩;rw [List.mem_singleton] at hy;subst hy;exact hlt _ (List.mem_append_left _ (List.mem_map_of_mem hx))
  have:(nH (rs++[⟨nx,e.body⟩]) ls).Perm (nx::nH rs ls):=by
   unfold nH;rw [List.map_append,List.append_assoc];exact List.perm_middle
  exact this.nodup_iff.2 (List.nodup_cons.2 ⟨λhm=>by have:=hlt _ hm;omega,h4⟩)
 split
 ·unfold IG;dsimp only
  split
  ·exact h
  rename_i m rest
  split
  ·exact h
  rename_i k1
  obtain ⟨a3,a4⟩:=List.pairwise_cons.1 a2;have hm:=a1 m (by simp)
  show fQ ep nx (gv+1) rest (ls++[⟨ep,gv,m⟩]) W=0
  refine Qk ⟨r1,r2,r3,r4,by omega,by omega,by rw [List.length_append,List.length_singleton];rw [List.length_cons] at r7;omega⟩ hw (DU.2 ⟨λx hx=>a1 x (by simp [hx]),a4⟩) (Ju.2 ⟨λx hx=>?_,?_⟩) ?_
  ·rcases List.mem_append.1 hx with hx | hx
   ·have:=b1 x hx;exact ⟨this.1,this.2.1,this.2.2.1,by omega⟩
   rw [List.mem_singleton] at hx;subst hx;exact ⟨hm.1,rfl,by dsimp only;omega,by dsimp only;omega⟩
  ·refine List.pairwise_append.2 ⟨b2,List.pairwise_singleton _ _,λx hx y hy=>?_⟩;rw [List.mem_singleton] at hy;subst hy;exact (b1 x hx).2.2.2
  refine (List.Perm.nodup_iff ?_).1 h4;unfold nH;rw [List.map_cons,List.map_append,List.cons_append,<-List.append_assoc];exact (List.perm_append_comm (l₁:=[m.no]) (l₂:=rest.map (·.no)++ls.map (·.msg.no)))
 split
 ·unfold Ga;dsimp only
  split
  ·exact h
  split
  ·exact h
  have hsub:(ls.filter λx=>decide (x.hno≠e.hno)).Sublist ls:=List.filter_sublist
  show fQ ep nx gv rs (ls.filter λx=>decide (x.hno≠e.hno)) W=0
  refine Qk ⟨r1,r2,r3,r4,r5,r6,by have:=hsub.length_le;omega⟩ hw h2 (Ju.2 ⟨λx hx=>b1 x (hsub.subset hx),b2.sublist hsub⟩) ?_;unfold nH at h4⊢;exact h4.sublist ((List.Sublist.refl _).append (hsub.map _))
 unfold Li;dsimp only
 split
 ·exact h
 have hP:=NS ls rs;have hlen:=hP.length_eq;rw [List.length_append,List.length_map] at hlen;have hnn:((ls.foldl (λl x=>jP x.msg l) rs).map (·.no)).Nodup:=by
  refine ((hP.map (·.no)).nodup_iff).2 ?_;unfold nH at h4;rw [List.map_append,List.map_map];exact h4
 show fQ (ep+1) nx 0 (ls.foldl (λl x=>jP x.msg l) rs) [] W=0
 refine Qk ⟨by omega,by omega,r3,r4,by omega,by omega,by rw [List.length_nil];omega⟩ hw (DU.2 ⟨λx hx=>?_,Xc (RZ ls rs (a2.imp λh=>Int.le_of_lt h)) hnn⟩) rfl ?_
 ·rcases List.mem_append.1 (hP.mem_iff.1 hx) with hx | hx
  ·exact a1 x hx
  obtain ⟨y,hy,rfl⟩:=List.mem_map.1 hx;have:=(b1 y hy).1;exact ⟨this,by have:=wY this;omega⟩
 unfold nH;rw [List.map_nil,List.append_nil];exact hnn
theorem amN {Q:Qd} {e:Ev} (h:(iN Q e).2.2.2=0):(iN Q e).1.fault=0:=by
 by_cases c1:Q.fault=0
 ·by_cases c2:bD e=0
  ·rw [Cx c1 c2];exact adZ c1 c2
  rw [Vv c1 c2] at h;exact absurd h c2
 rw [Qj c1] at h;exact absurd h c1
theorem ZV:dX.fault=0:=by
 refine Qk ⟨by decide,by decide,by decide,by decide,by decide,by decide,by decide⟩ (λj hj=>?_) rfl rfl List.nodup_nil;have hj':j=0\/j=1\/j=2\/j=3:=by omega
 rcases hj' with rfl | rfl | rfl | rfl<;>decide
end
end Go.Proofs.YthhnonpehllibaaGreatDoor
