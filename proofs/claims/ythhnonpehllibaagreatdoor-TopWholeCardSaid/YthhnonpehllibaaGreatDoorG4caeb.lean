import Derived.Shelf.SlicesG.Cmp
import Derived.Shelf.SlGeneric
import Derived.Ground.SlsfProg
import Derived.Ground.SlgcProg
import Derived.Test.YthhnonpehllibaaGreatDoorG2a93c
import Derived.Test.YthhnonpehllibaaGreatDoorG3868e
import Derived.Test.YthhnonpehllibaaGreatDoorG8cc5b
set_option maxRecDepth 100000
set_option maxHeartbeats 8000000
set_option linter.unusedSimpArgs false
set_option linter.unusedVariables false
namespace Go.Proofs.YthhnonpehllibaaGreatDoor
section
section
open Go.Shelf Go.RowKit Go.Lib Go.Sort
def Tv:Go.Shelf.Ren:=⟨λ| 6=>126 | 15=>131 | 14=>130 | 28=>141 | 29=>142 | 20=>133 | 21=>134 | 22=>135 | 23=>136 | 24=>137 | 25=>138 | 26=>139 | 27=>140 | 46=>144 | 47=>145 | 48=>146 | 49=>147 | 50=>148 | 57=>149 | n=>n,λ| 22=>162 | 24=>209 | 25=>226 | 3=>3 | 39=>152 | 0=>0 | 53=>240 | 55=>242 | 4=>4 | 46=>234 | 45=>233 | 50=>28 | 5=>5 | 9=>9 | 66=>243 | 70=>94 | 76=>248 | 77=>249 | n=>n,λ| n=>n⟩
theorem Yk:Go.Proofs.SlLaysF0.n6 Tryz.prog Tv:={
 mixed:=by kernel_rfl
 f6:=⟨Tryz.f126.name,by decide,Tryz.func126.trans (congrArg some (by kernel_rfl))⟩
 f14:=⟨Tryz.f130.name,by decide,Tryz.func130.trans (congrArg some (by kernel_rfl))⟩
 f15:=Tryz.func131.trans (congrArg some (by kernel_rfl))
 f20:=⟨Tryz.f133.name,by decide,Tryz.func133.trans (congrArg some (by kernel_rfl))⟩
 f21:=⟨Tryz.f134.name,by decide,Tryz.func134.trans (congrArg some (by kernel_rfl))⟩
 f22:=⟨Tryz.f135.name,by decide,Tryz.func135.trans (congrArg some (by kernel_rfl))⟩
 f23:=⟨Tryz.f136.name,by decide,Tryz.func136.trans (congrArg some (by kernel_rfl))⟩
 f24:=⟨Tryz.f137.name,by decide,Tryz.func137.trans (congrArg some (by kernel_rfl))⟩
 f25:=⟨Tryz.f138.name,by decide,Tryz.func138.trans (congrArg some (by kernel_rfl))⟩
 f26:=⟨Tryz.f139.name,by decide,Tryz.func139.trans (congrArg some (by kernel_rfl))⟩
 f27:=⟨Tryz.f140.name,by decide,Tryz.func140.trans (congrArg some (by kernel_rfl))⟩
 f28:=Tryz.func141.trans (congrArg some (by kernel_rfl))
 f29:=Tryz.func142.trans (congrArg some (by kernel_rfl))
 f46:=⟨Tryz.f144.name,by decide,Tryz.func144.trans (congrArg some (by kernel_rfl))⟩
 f47:=Tryz.func145.trans (congrArg some (by kernel_rfl))
 f48:=Tryz.func146.trans (congrArg some (by kernel_rfl))
 f49:=⟨Tryz.f147.name,by decide,Tryz.func147.trans (congrArg some (by kernel_rfl))⟩
 f50:=⟨Tryz.f148.name,by decide,Tryz.func148.trans (congrArg some (by kernel_rfl))⟩
 f57:=⟨Tryz.f149.name,by decide,Tryz.func149.trans (congrArg some (by kernel_rfl))⟩
 t0:=Tryz.underlying0
 a0:=Tryz.isAgg0
 z0:=Tryz.sizeOf0
 v0:=Tryz.zeroValue0
 t3:=Tryz.underlying3
 a3:=Tryz.isAgg3
 z3:=Tryz.sizeOf3
 v3:=Tryz.zeroValue3
 t4:=Tryz.underlying4
 a4:=Tryz.isAgg4
 z4:=Tryz.sizeOf4
 v4:=Tryz.zeroValue4
 t5:=Tryz.underlying5
 a5:=Tryz.isAgg5
 z5:=Tryz.sizeOf5
 v5:=Tryz.zeroValue5
 t9:=Tryz.underlying9
 a9:=Tryz.isAgg9
 z9:=Tryz.sizeOf9
 v9:=Tryz.zeroValue9
 t22:=Tryz.underlying162
 a22:=Tryz.isAgg162
 z22:=Tryz.sizeOf162
 v22:=Tryz.zeroValue162
 t25:=Tryz.underlying226
 a25:=Tryz.isAgg226
 z25:=Tryz.sizeOf226
 v25:=Tryz.zeroValue226
 t39:=Tryz.underlying152
 a39:=Tryz.isAgg152
 z39:=Tryz.sizeOf152
 v39:=Tryz.zeroValue152
 t45:=Tryz.underlying233
 a45:=Tryz.isAgg233
 z45:=Tryz.sizeOf233
 v45:=Tryz.zeroValue233
 t46:=Tryz.underlying234
 a46:=Tryz.isAgg234
 z46:=Tryz.sizeOf234
 v46:=Tryz.zeroValue234
 t50:=Tryz.underlying28
 a50:=Tryz.isAgg28
 z50:=Tryz.sizeOf28
 v50:=Tryz.zeroValue28
 t53:=Tryz.underlying240
 a53:=Tryz.isAgg240
 z53:=Tryz.sizeOf240
 v53:=Tryz.zeroValue240
 t55:=Tryz.underlying242
 a55:=Tryz.isAgg242
 z55:=Tryz.sizeOf242
 v55:=Tryz.zeroValue242
 t66:=Tryz.underlying243
 a66:=Tryz.isAgg243
 z66:=Tryz.sizeOf243
 v66:=Tryz.zeroValue243
 t70:=Tryz.underlying94
 a70:=Tryz.isAgg94
 z70:=Tryz.sizeOf94
 v70:=Tryz.zeroValue94
 t76:=Tryz.underlying248
 a76:=Tryz.isAgg248
 z76:=Tryz.sizeOf248
 v76:=Tryz.zeroValue248
 t77:=Tryz.underlying249
 a77:=Tryz.isAgg249
 z77:=Tryz.sizeOf249
 v77:=Tryz.zeroValue249 }
def WJ:Go.Shelf.Ren:=⟨λ| 5=>132 | 7=>143 | n=>n,λ| 22=>3 | 3=>3 | 4=>4 | n=>n,λ| n=>n⟩
theorem aou:Go.Proofs.SlLaysC2.n5 Tryz.prog WJ:={
 mixed:=by kernel_rfl
 f5:=⟨Tryz.f132.name,by decide,Tryz.func132.trans (congrArg some (by kernel_rfl))⟩
 f7:=⟨Tryz.f143.name,by decide,Tryz.func143.trans (congrArg some (by kernel_rfl))⟩
 t3:=Tryz.underlying3
 a3:=Tryz.isAgg3
 z3:=Tryz.sizeOf3
 v3:=Tryz.zeroValue3
 t4:=Tryz.underlying4
 a4:=Tryz.isAgg4
 z4:=Tryz.sizeOf4
 v4:=Tryz.zeroValue4
 t22:=Tryz.underlying3
 a22:=Tryz.isAgg3
 z22:=Tryz.sizeOf3
 v22:=Tryz.zeroValue3 }
end
open Go.Shelf
open ChangeShapes WideShapes ChangeAt RowKit
open Go.Sort (HoldsK PermIn SortedIn SWO grow)
instance:Inhabited fT:=⟨⟨0,0⟩⟩
def LJ (x y:fT):Int:=Lib.compareInt x.no y.no
theorem afY (x y:fT):ltOf LJ x y=decide (x.no<y.no):=by
 unfold ltOf LJ Lib.compareInt;by_cases h1:x.no<y.no
 ·simp [h1]
 by_cases h2:y.no<x.no<;>simp [h1,h2]
theorem at1:SWO (ltOf LJ) where
 irrefl x:=by rw [afY];simp
 trans x y z h1 h2:=by rw [afY] at*;simp at*;omega
 ntrans x y z h1 h2:=by rw [afY] at*;simp at*;omega
theorem WK (x y:fT) (W:World):Calls Tryz.prog 127 #[.agg #[.int .i64 x.no,.int .i64 x.body],.agg #[.int .i64 y.no,.int .i64 y.body]] W λe w'=>e= .returned (.int .i64 (LJ x y))/\ ∃ q os',w'=grow (W.drewN q) os':=by
 have hcon:=λW'=>AnyG.cmp_Compare_int aou x.no y.no W';change ∀ W',Calls Tryz.prog 132 _ _ _ at hcon;unfold LJ;generalize Lib.compareInt x.no y.no=r at hcon⊢
 go_enter Tryz.func127,Tryz.ntmps127
 go_wp2_with (go_at_call 132;refine (hcon _).mono ?_;rintro e w' ⟨rfl,rfl⟩)
 go_ret
 exact ⟨rfl,0,_,by rw [Go.Sort.alloc_eq_grow,Go.Sort.alloc_eq_grow,Go.Sort.grow_grow];rfl⟩
theorem aov: ∀ w,(isAgg 209).run Tryz.prog w= .ok true w:=by
 intro w;simp [isAgg,run_underlying Tryz.underlying209,Sem.run_bind,Result.andThen]
theorem aiz: ∀ w,(Go.sizeOf 209).run Tryz.prog w= .ok 2 w:=by
 intro w;obtain ⟨z,hq,hs⟩: ∃ z,Tryz.prog.info? 209=some z/\z.size=2:=by
  have h:=EM
  cases hi:Tryz.prog.info? 209 with
  | none=>simp [hi] at h
  | some z=>exact ⟨z,rfl,by simpa [hi] using h⟩
 simp [sizeOf,typeInfo,hq,hs,Sem.run_bind,Result.andThen]
def qV (l:List fT):Prop:=l.Pairwise λa b=>a.no<=b.no
theorem Tw (A:Option Addr) (c:Nat) (rs:List fT) (w:World) {B:Nat} (ho:w.ownsRow B 209 2 (.slice A rs.length c) rs.length (rs.flatMap fT.cells)) (hl:rs.length<=1000000):
  Calls Tryz.prog 126 #[.slice A rs.length c,.func (.func 127) #[] #[]] w λe w'=>e= .returned (.tuple #[])/\ ∃ d:List fT,d.Perm rs/\qV d/\
   w'.ownsRow B 209 2 (.slice A rs.length c) rs.length (d.flatMap fT.cells)/\w.grownBy w' (Value.slice A rs.length c).ownBlock:=by
 rcases Nat.eq_zero_or_pos rs.length with h0 | h0
 ·have e0:rs=[]:=List.length_eq_zero_iff.1 h0;subst e0;refine (AnyF.slices_SortFunc_none Yk A c (.func (.func 127) #[] #[]) w).mono ?_;rintro e w' ⟨rfl,rfl⟩;exact ⟨rfl,[],List.Perm.refl _,List.Pairwise.nil,ho,⟨rfl,rfl,rfl,Nat.le_refl _,λ_ _ _=>rfl⟩⟩
 obtain ⟨g,rfl⟩:=D6 ho h0;have hg:g<w.heap.size:=DU ho g rfl;have hH:=Zp (enc:=fT.cells) (k:=2) (λ_=>rfl) ho rfl;have hcon:=AnyQ.slices_SortFunc Yk 2 aov aiz fT.cells (λ_=>rfl) (λx v hv=>by simp [fT.cells] at hv;rcases hv with rfl | rfl<;>rfl) LJ at1 127 #[] g 0 c rs.toArray w axo (λ_ _ _ _ x y=>WK x y _) hH hg (by simp;omega);change Calls Tryz.prog 126 _ _ _ at hcon;rw [List.size_toArray] at hcon;refine hcon.mono ?_;rintro e w' ⟨rfl,d',m,os,hp,hs,rfl⟩;obtain ⟨p1,_,p3⟩:=hp
 replace p1:d'.size=rs.length:=p1
 obtain ⟨q1,q2⟩:=WC (enc:=fT.cells) (k:=2) (d':=d') (m:=m) (os:=os) (λ_=>rfl) ho p1;refine ⟨rfl,d'.toList,?_,?_,q1,q2⟩
 ·have e1:d'.extract 0 rs.length=d':=by rw [<-p1];exact Array.extract_size
  have e2:rs.toArray.extract 0 rs.length=rs.toArray:=by simp
  rw [e1,e2] at p3;simpa using p3
 unfold qV;rw [List.pairwise_iff_getElem];intro i j hi hj hij;rw [Array.length_toList] at hi hj;have h:=hs i j (Nat.zero_le _) hij (by omega);rw [afY,getElem!_pos d' j hj,getElem!_pos d' i hi] at h;simp only [Array.getElem_toList];simpa using h
theorem Ay (m:fT): ∀ l:List fT,(jN m l).Perm (m::l)
 | []=>List.Perm.refl _
 | x::l=>by
  unfold jN
  split
  ·exact List.Perm.refl _
  exact ((Ay m l).cons x).trans (List.Perm.swap m x l)
theorem Kw {m:fT}: ∀ {l:List fT},qV l->qV (jN m l)
 | [],_=>by simp [jN,qV]
 | x::l,h=>by
  obtain ⟨h1,h2⟩:=List.pairwise_cons.1 h;unfold jN
  split
  ·rename_i hlt
   refine List.pairwise_cons.2 ⟨λy hy=>?_,h⟩
   rcases List.mem_cons.1 hy with e | e
   ·rw [e];omega
   have:=h1 y e;omega
  rename_i hlt
  refine List.pairwise_cons.2 ⟨λy hy=>?_,Kw h2⟩
  rcases List.mem_cons.1 ((Ay m l).mem_iff.1 hy) with e | e
  ·rw [e];omega
  exact h1 y e
theorem F3: ∀ (ls:List Ls) (rs:List fT),(ls.foldl (λl x=>jN x.msg l) rs).Perm (rs++ls.map (·.msg))
 | [],rs=>by simp
 | x::ls,rs=>by
  rw [List.foldl_cons,List.map_cons];refine (F3 ls (jN x.msg rs)).trans ?_;refine ((Ay x.msg rs).append_right _).trans ?_;rw [List.cons_append];exact List.perm_middle.symm
theorem Rx: ∀ (ls:List Ls) {rs:List fT},qV rs->qV (ls.foldl (λl x=>jN x.msg l) rs)
 | [],_,h=>h
 | _::ls,_,h=>Rx ls (Kw h)
theorem aen {rs d:List fT} {ls:List Ls} (hp:d.Perm (rs++ls.map (·.msg))) (ha:qV d) (hA:qV rs) (hN:(nE rs ls).Nodup):d=ls.foldl (λl x=>jN x.msg l) rs:=by
 have hF:=F3 ls rs;have hnd:((rs++ls.map (·.msg)).map (·.no)).Nodup:=by
  unfold nE at hN;rw [List.map_append,List.map_map];exact hN
 refine List.Perm.eq_of_pairwise (le:=λa b:fT=>a.no<=b.no) (λa b ha' hb' h1 h2=>?_) ha (Rx ls hA) (hp.trans hF.symm);have m1:=hp.mem_iff.1 ha';have m2:=hF.mem_iff.1 hb';have e:a.no=b.no:=by omega
 have:=List.pairwise_map.1 hnd;obtain ⟨i,hi,e1⟩:=List.getElem_of_mem m1;obtain ⟨j,hj,e2⟩:=List.getElem_of_mem m2;rw [List.pairwise_iff_getElem] at this
 rcases Nat.lt_trichotomy i j with h | h | h
 ·exact absurd (by rw [e1,e2];exact e) (this i j hi hj h)
 ·subst h;rw [<-e1,<-e2]
 exact absurd (by rw [e1,e2];exact e.symm) (this j i hj hi h)
end
section
open ChangeShapes WideShapes RowKit
def dV:Qd:=⟨0,0,0,[],[],jr⟩
def Qd.row (Q:Qd) (A1:Option Addr) (c1:Nat) (A2:Option Addr) (c2:Nat):Array Value:=cZ Q.ep Q.nx Q.gv (.slice A1 Q.ready.length c1) (.slice A2 Q.bO.length c2) Q.ws
noncomputable def Qd.fault (Q:Qd):Int:=fP Q.ep Q.nx Q.gv Q.ready Q.bO Q.ws
def stepM (Q:Qd) (e:Ev):Qd×iZ×Bool:=
 if e.kind=1 then Cb Q e.producer.toNat e.id e.body else if e.kind=2 then Ip Q else if e.kind=3 then FV Q e.aO e.hno else K7 Q
noncomputable def iL (Q:Qd) (e:Ev):Qd×iZ×Bool×Int:=
 if Q.fault≠0 then (dV,eH,false,Q.fault) else if bq e≠0 then (dV,eH,false,bq e) else ((stepM Q e).1,(stepM Q e).2.1,(stepM Q e).2.2,0)
def aiA (w:World) (r:Qd×iZ×Bool×Int) (e:Ending) (w':World):Prop:= ∃ A1 c1 A2 c2,e= .returned (.tuple #[.agg (cZ r.1.ep r.1.nx r.1.gv (.slice A1 r.1.ready.length c1) (.slice A2 r.1.bO.length c2) r.1.ws),r.2.1.val,.bool r.2.2.1,.int .i64 r.2.2.2])/\
 St w.heap.size w w' [.cu 2 A1 r.1.ready.length (r.1.ready.flatMap fT.cells),.cu 4 A2 r.1.bO.length (r.1.bO.flatMap Ls.cells)]
section
variable {ep nx gv p:Int} {rs:List fT} {ls:List Ls} {W:jV}
theorem OO (h:fP ep nx gv rs ls W=0):QE ep nx gv rs ls/\zi W/\jL nx (-1) rs=true/\kT ep nx gv (-1) ls=true/\(nE rs ls).Nodup:=by
 unfold fP at h
 split at h
 ·cases h
 split at h
 ·cases h
 split at h
 ·rename_i h1 h2 h3
  exact ⟨Classical.not_not.1 h1,Classical.not_not.1 h2,h3⟩
 cases h
theorem acQ: ∀ {rs:List fT} {p:Int},jL nx p rs=true->(∀ x∈rs,p<x.no)/\rs.Pairwise λa b=>a.no<b.no
 | [],_,_=>⟨λx hx=>by simp at hx,List.Pairwise.nil⟩
 | m::r,p,h=>by
  simp only [jL,Bool.and_eq_true,decide_eq_true_eq] at h;obtain ⟨⟨_,h1⟩,h2⟩:=h;obtain ⟨h3,h4⟩:=acQ h2;refine ⟨λx hx=>?_,List.pairwise_cons.2 ⟨h3,h4⟩⟩
  rcases List.mem_cons.1 hx with rfl | hx
  ·exact h1
  exact Int.lt_trans h1 (h3 x hx)
theorem aiB (h:jL nx (-1) rs=true):qV rs:=(acQ h).2.imp λh=>Int.le_of_lt h
theorem abY: ∀ {ls:List Ls} {p:Int},kT ep nx gv p ls=true->(∀ x∈ls,x.dZ=ep/\p<x.hno)/\ls.Pairwise λa b=>a.hno<b.hno
 | [],_,_=>⟨λx hx=>by simp at hx,List.Pairwise.nil⟩
 | m::r,p,h=>by
  simp only [kT,K6,Bool.and_eq_true,decide_eq_true_eq] at h;obtain ⟨⟨_,h0,h1,_⟩,h2⟩:=h;obtain ⟨h3,h4⟩:=abY h2;refine ⟨λx hx=>?_,List.pairwise_cons.2 ⟨λx hx=>(h3 x hx).2,h4⟩⟩
  rcases List.mem_cons.1 hx with rfl | hx
  ·exact ⟨h0,h1⟩
  exact ⟨(h3 x hx).1,Int.lt_trans h1 (h3 x hx).2⟩
theorem aow (h:kT ep nx gv (-1) ls=true): ∀ x∈ls,x.dZ=ep:=λx hx=>((abY h).1 x hx).1
theorem aox (h:kT ep nx gv (-1) ls=true): ∀ (i j:Nat) (a b:Ls),ls[i]? =some a->ls[j]? =some b->a.hno=b.hno->i=j:=by
 have hp:=(abY h).2;rw [List.pairwise_iff_getElem] at hp;intro i j a b ha hb e;obtain ⟨hi,rfl⟩:=List.getElem?_eq_some_iff.1 ha;obtain ⟨hj,rfl⟩:=List.getElem?_eq_some_iff.1 hb
 rcases Nat.lt_trichotomy i j with h1 | h1 | h1
 ·have:=hp i j hi hj h1;omega
 ·exact h1
 have:=hp j i hj hi h1;omega
theorem aiC {e:Ev} (h:bq e=0):1<=e.kind/\e.kind<=4:=by
 unfold bq at h
 split at h
 ·cases h
 rename_i h1
 exact Classical.not_not.1 h1
theorem Yl {e:Ev} (h:bq e=0):0<=e.producer/\e.producer<=3:=by
 unfold bq at h
 split at h
 ·cases h
 split at h
 ·cases h
 rename_i h1 h2
 split at h
 ·cases h
 split at h
 ·cases h
 rename_i h3 h4
 by_cases hk:e.kind=1
 ·have h5:=Classical.not_not.1 (λh6=>h2 ⟨hk,h6⟩);simp only [Bool.and_eq_true,jU,decide_eq_true_eq] at h5;omega
 have h5:=Classical.not_not.1 (λh6=>h4 ⟨hk,h6⟩);omega
end
section
variable {Q:Qd} {e:Ev}
theorem PY (h:Q.fault≠0):iL Q e=(dV,eH,false,Q.fault):=if_pos h
theorem Vg (h:Q.fault=0) (h1:bq e≠0):iL Q e=(dV,eH,false,bq e):=by
 unfold iL;rw [if_neg (λh2=>h2 h),if_pos h1]
theorem Cg (h:Q.fault=0) (h1:bq e=0):iL Q e=((stepM Q e).1,(stepM Q e).2.1,(stepM Q e).2.2,0):=by
 unfold iL;rw [if_neg (λh2=>h2 h),if_neg (λh2=>h2 h1)]
end
noncomputable def ig:Qd->List iZ->List Ev->Option (Qd×List iZ)
 | Q,an,[]=>some (Q,an)
 | Q,an,e::r=>if (iL Q e).2.2.2=0/\(iL Q e).2.2.1=true then ig (iL Q e).1 (an++[(iL Q e).2.1]) r else none
noncomputable def aH (l:List Ev):Qd×List iZ×Int:=
 if 2000<l.length then (dV,[],1) else match ig dV [] l with
  | some r=>(r.1,r.2,0)
  | none=>(dV,[],3)
section
variable {Q:Qd} {an:List iZ} {l:List Ev} {e:Ev} {k:Nat}
theorem Tx (h:l[k]? =some e) (h0:(iL Q e).2.2.2=0) (h1:(iL Q e).2.2.1=true):ig Q an (l.drop k)=ig (iL Q e).1 (an++[(iL Q e).2.1]) (l.drop (k+1)):=by
 obtain ⟨hk,hm⟩:=List.getElem?_eq_some_iff.1 h;rw [List.drop_eq_getElem_cons hk,hm,ig,if_pos ⟨h0,h1⟩]
theorem Tz (h:l[k]? =some e) (h0: ¬ ((iL Q e).2.2.2=0/\(iL Q e).2.2.1=true)):ig Q an (l.drop k)=none:=by
 obtain ⟨hk,hm⟩:=List.getElem?_eq_some_iff.1 h;rw [List.drop_eq_getElem_cons hk,hm,ig,if_neg h0]
theorem WL (h:l.length<=k):ig Q an (l.drop k)=some (Q,an):=by
 rw [List.drop_eq_nil_of_le h];rfl
theorem Nt (h:2000<l.length):aH l=(dV,[],1):=if_pos h
theorem Eb {r:Qd×List iZ} (h: ¬ 2000<l.length) (h1:ig dV [] l=some r):aH l=(r.1,r.2,0):=by
 unfold aH;rw [if_neg h,h1]
theorem JI (h: ¬ 2000<l.length) (h1:ig dV [] l=none):aH l=(dV,[],3):=by
 unfold aH;rw [if_neg h,h1]
theorem fU (h:(aH l).2.2=0):l.length<=2000:=by
 unfold aH at h
 split at h
 ·cases h
 omega
theorem aeo:(stepM Q e).1.ready.length+(stepM Q e).1.bO.length<=Q.ready.length+Q.bO.length+1:=by
 unfold stepM
 split
 ·unfold Cb;split; · dsimp only;omega
  split; · dsimp only;omega
  split; · dsimp only;omega
  simp only [List.length_append,List.length_cons,List.length_nil];omega
 split
 ·obtain ⟨ep,nx,gv,rs,ls,W⟩:=Q
  cases rs with
  | nil=>simp [Ip]
  | cons m r=>simp only [Ip];split<;>simp<;>omega
 split
 ·unfold FV;split; · dsimp only;omega
  split; · dsimp only;omega
  have:=List.length_filter_le (λx:Ls=>decide (x.hno≠e.hno)) Q.bO;simp only;omega
 unfold K7;split; · dsimp only;omega
 have h:=(F3 Q.bO Q.ready).length_eq;rw [List.length_append,List.length_map] at h;simp only [List.length_nil];omega
theorem acR (h:(iL Q e).2.2.2=0):(iL Q e).1.ready.length+(iL Q e).1.bO.length<=501:=by
 by_cases h0:Q.fault=0
 ·by_cases h1:bq e=0
  ·rw [Cg h0 h1];have h2:=(OO h0).1;unfold QE at h2;have:=aeo (Q:=Q) (e:=e);simp only;omega
  rw [Vg h0 h1];simp [dV]
 rw [PY h0];simp [dV]
theorem CV: ∀ {l:List Ev} {Q:Qd} {an:List iZ} {r:Qd×List iZ},Q.ready.length+Q.bO.length<=501->ig Q an l=some r->r.1.ready.length+r.1.bO.length<=501/\r.2.length=an.length+l.length
 | [],Q,an,r,hQ,h=>by
  simp only [ig,Option.some.injEq] at h;subst h;exact ⟨hQ,by simp⟩
 | e::l,Q,an,r,hQ,h=>by
  rw [ig] at h
  split at h
  ·rename_i hc
   obtain ⟨h1,h2⟩:=CV (acR hc.1) h;exact ⟨h1,by rw [h2];simp;omega⟩
  cases h
theorem WM:(aH l).1.ready.length+(aH l).1.bO.length<=501:=by
 unfold aH
 split
 ·simp [dV]
 split
 ·rename_i r hr
  exact (CV (by simp [dV]) hr).1
 simp [dV]
end
structure bK where
 role:Int
 ep:Int
 fr:Int
 tg:Int
 rd:Int
 evs:List Ev
 deriving DecidableEq
def bG:bK:=⟨0,0,0,0,0,[]⟩
def aM:Ev:=⟨4,0,0,0,0,0⟩
def bD (b:bK):Prop:=(b.role=0/\0<=b.ep/\b.ep<=1048576/\b.fr=0/\b.tg=0/\b.rd=0/\b.evs.length=0)\/(1<=b.ep/\b.ep<=1048576/\
 ((b.role=1/\b.fr=0/\b.tg=0/\b.rd=0)\/(b.role=2/\b.fr=0/\0<=b.tg/\b.tg<5/\0<=b.rd/\b.rd<=4)\/(b.role=3/\b.fr=0/\0<=b.tg/\b.tg<5/\b.rd=0)\/(b.role=4/\0<=b.fr/\b.fr<5/\b.tg=0/\b.rd=0)))
instance (b:bK):Decidable (bD b):=by unfold bD;exact inferInstance
open Classical in
noncomputable def au (b:bK):Int:=if bD b/\(aH b.evs).2.2=0 then 0 else 6
section
variable {b:bK}
theorem l9 (h:bD b) (h1:(aH b.evs).2.2=0):au b=0:=if_pos ⟨h,h1⟩
theorem JJ (h: ¬ bD b):au b=6:=if_neg λh1=>h h1.1
theorem OP (h: ¬ (aH b.evs).2.2=0):au b=6:=if_neg λh1=>h h1.2
theorem dQ (h:au b=0):bD b/\(aH b.evs).2.2=0:=by
 unfold au at h
 split at h
 ·assumption
 cases h
end
noncomputable def gJ (b:bK) (e:Ev):bK×iZ×Bool×Int:=
 if au b≠0 then (bG,eH,false,au b) else if bq e≠0 then (bG,eH,false,bq e) else if e.kind=4 then (bG,eH,false,3)
 else if b.role=3 then (b,rU 12,false,0) else if b.role≠1/\b.role≠2 then (b,rU 7,false,0)
 else if (iL (aH b.evs).1 e).2.2.1=false then (b,(iL (aH b.evs).1 e).2.1,false,0)
 else if 1999<=b.evs.length then (b,rU 14,false,0) else ({ b with evs:=b.evs++[e] },(iL (aH b.evs).1 e).2.1,true,0)
noncomputable def iX (b:bK) (ep:Int):bK×Int:=
 if au b≠0 then (bG,au b) else if ¬ (1<=ep/\ep<=1048576) then (bG,2) else if b.role≠0 then (bG,8) else if ep<=b.ep then (bG,15) else (⟨1,ep,0,0,0,[]⟩,0)
noncomputable def zL (b:bK) (tg:Int):bK×Int:=
 if au b≠0 then (bG,au b) else if ¬ (0<=tg/\tg<=4) then (bG,2) else if b.role=2\/b.role=3 then (bG,12) else if b.role≠1 then (bG,7)
 else if b.ep=1048576 then (bG,14) else (⟨2,b.ep,0,tg,0,b.evs⟩,0)
noncomputable def bP (b:bK) (hv:Int):bK×Int:=
 if au b≠0 then (bG,au b) else if b.role≠2/\b.role≠3 then (bG,7) else if ¬ (0<=hv/\hv<=b.evs.length) then (bG,2)
 else if b.role=3 then (b,0) else if hv=b.evs.length\/b.rd=4 then ({ b with role:=3,rd:=0 },0) else ({ b with rd:=b.rd+1 },0)
noncomputable def iI (b:bK) (hv:Int):List Ev×Bool×Int:=
 if au b≠0 then ([],false,au b) else if b.role≠2/\b.role≠3 then ([],false,7) else if ¬ (0<=hv/\hv<=b.evs.length) then ([],false,2)
 else ((b.evs.drop hv.toNat).take 3,decide (b.role=3/\b.evs.length<=hv.toNat+3),0)
noncomputable def dz (b:bK) (ep fr:Int):bK×Int:=
 if au b≠0 then (bG,au b) else if ¬ (1<=ep/\ep<=1048576/\0<=fr/\fr<=4) then (bG,2) else if b.role≠0/\b.role≠4 then (bG,8)
 else if b.role=4/\b.ep=ep/\b.fr=fr then (b,0) else if ep<=b.ep then (bG,15) else (⟨4,ep,fr,0,0,[]⟩,0)
noncomputable def dh (b:bK) (ep at_:Int) (l:List Ev) (last:Bool):bK×Int:=
 if au b≠0 then (bG,au b) else if b.role≠4 then (bG,7) else if b.ep≠ep then (bG,15) else if ¬ (0<=at_/\at_<=b.evs.length) then (bG,2)
 else if ¬ (b.evs.drop at_.toNat).take l.length=l.take (b.evs.length-at_.toNat) then (bG,3)
 else if last=true/\at_.toNat+l.length<b.evs.length then (bG,3)
 else if au (if last=true then ⟨1,ep,0,0,0,b.evs++l.drop (b.evs.length-at_.toNat)++[aM]⟩ else { b with evs:=b.evs++l.drop (b.evs.length-at_.toNat) })≠0 then (bG,3)
 else (if last=true then ⟨1,ep,0,0,0,b.evs++l.drop (b.evs.length-at_.toNat)++[aM]⟩ else { b with evs:=b.evs++l.drop (b.evs.length-at_.toNat) },0)
noncomputable def gq (b:bK) (ep:Int):bK×Int:=
 if au b≠0 then (bG,au b) else if b.role≠3 then (bG,7) else if ep<=b.ep then (bG,15) else (⟨0,b.ep,0,0,0,[]⟩,0)
noncomputable def eU (b:bK):bK×Int:=
 if au b≠0 then (bG,au b) else if b.role≠1/\b.role≠2 then (b,0)
 else if au ⟨1,b.ep,0,0,0,b.evs++[aM]⟩≠0 then (bG,14) else (⟨1,b.ep,0,0,0,b.evs++[aM]⟩,0)
theorem kF {α:Type} {a b:α} (h:a=b:=by (repeat' (first | rfl | omega | split))<;>(simp only [Prod.mk.injEq,bK.mk.injEq,and_true,true_and,and_self];omega)):a=b:=h
end
section
abbrev bR (b:bK) (A:Option Addr) (c:Nat):Array Value:= #[iV b.role,iV b.ep,iV b.fr,iV b.tg,iV b.rd,.slice A b.evs.length c]
abbrev zB:Array Value:= #[iV 0,iV 0,iV 0,iV 0,iV 0,.slice none 0 0]
abbrev rR (k q e p:Int) (x:Ev):Array Value:= #[iV k,iV q,iV e,iV p,iV x.kind,iV x.producer,iV x.id,iV x.body,iV x.aO,iV x.hno]
end
section
open ChangeShapes WideShapes RowKit
theorem ZC {B g k c1 c2:Nat} {w0 w:World} {fs:List Fact} {A1 A2:Option Addr} {rs:List fT} {ls:List Ls} {W:jV} {ep nx gv kd id bd he hn:Int} (S:St B w0 w (.blk g (cZ ep nx gv (.slice A1 rs.length c1) (.slice A2 ls.length c2) W) 206:: .own 209 2 (.slice A1 rs.length c1) rs.length ((rs).flatMap fT.cells):: .own 212 4 (.slice A2 ls.length c2) ls.length ((ls).flatMap Ls.cells)::fs)) (hk:k<4) (hlen:rs.length+ls.length<=500) (hnx:0<=nx/\nx<=1073741824) (hgv:0<=gv/\gv<=1073741824) (dZ:0<=ep/\ep<=1048576) (hA:qV rs) (hN:(nE rs ls).Nodup):
    Calls Tryz.prog 119 #[pV g 0,.agg #[iV kd,iV ((k:Nat):Int),iV id,iV bd,iV he,iV hn]] w (D8 B w0 g fs (K7 ⟨ep,nx,gv,rs,ls,W⟩)):=by
 refine gB 63 Tryz.func119 ?_;refine cw [0,1] ?_;refine zN 2 ?_;refine iK S ?_;intro b1 w2 S3;refine fF S3 sM ?_;intro b4 w5 S6;refine zN 10 ?_;refine vv (aj rfl rfl (ay Tryz.underlying3 rfl (St.cl 2 S6 rfl xP))) ?_;by_cases h1:ep=1048576
 ·refine zN 6 ?_;refine vv (v:= .agg #[iV 14,iV 0,iV 0,iV 0]) gD ?_;refine sa 0 S6 dw ?_;intro w7 S8;refine zN 6 ?_;have S9:=S8.aR [1,0];have oC:=S9.bH 1 rfl;have qj:=oC.bH 2 rfl;rw [aef h1];refine ⟨rfl,A1,c1,A2,c2,?_⟩;dsimp only;exact qj
 refine zN 13 ?_;refine vv (aj rfl rfl (ay Tryz.underlying163 rfl (St.cl 2 S6 rfl sN))) ?_;refine zN 5 ?_;refine dW (X:=Nat×(Option Addr)×Nat) (λxv=>[(0,pV g 0),(4,pV b4 0),(5,.bool false),(19,.slice A2 ls.length c2),(20,iV ((ls.length:Nat):Int)),(21,iV ((xv.1:Nat):Int))]) (λxv wr=>(xv.1<=ls.length)/\St B w0 wr ((.blk b4 #[iV 0,iV 0,iV 0,iV 0] 101)::(.blk b1 #[iV kd,iV ((k:Nat):Int),iV id,iV bd,iV he,iV hn] 53)::(.blk g (cZ ep nx gv (.slice xv.2.1 (rs.length+xv.1) xv.2.2) (.slice A2 ls.length c2) W) 206)::(.own 209 2 (.slice xv.2.1 (rs.length+xv.1) xv.2.2) (rs.length+xv.1) ((rs++(ls.take xv.1).map (·.msg)).flatMap fT.cells))::(.own 212 4 (.slice A2 ls.length c2) ls.length ((ls).flatMap Ls.cells))::fs)) (λxv=>ls.length-xv.1) (0,A1,c1) ?_ ?_ ?_
 ·exact ⟨Nat.zero_le _,by dsimp only;rw [show rs++(ls.take 0).map (·.msg)=rs by simp];exact S6⟩
 ·exact ⟨rfl,rfl,rfl,rfl,rfl,rfl,trivial⟩
 rintro ⟨q,Ab,cb⟩ Zl ⟨La,wu⟩
 try dsimp only at La wu
 refine bC (l':=[(0,pV g 0),(4,pV b4 0),(5,.bool false),(19,.slice A2 ls.length c2),(20,iV ((ls.length:Nat):Int)),(21,iV ((q:Nat):Int))]) ⟨rfl,rfl,rfl,rfl,rfl,rfl,trivial⟩ (aQ (aC ?_));by_cases h15:((q:Nat):Int)< ((ls.length:Nat):Int)
 ·refine zN 11 ?_;obtain ⟨b16,o17,rfl⟩:=Rd.addr (St.ord 4 wu rfl) (by omega);obtain ⟨x18,Ec⟩:=L6 q (St.ord 4 wu rfl) (by omega);refine vv (jh q) ?_;refine vv (aj rfl rfl (aA (cs:=Ls.cells x18) Tryz.underlying212 rfl Hy rfl (Rd.vM (St.ord 4 wu rfl) (λ_ _ h=>bg (enc:=Ls.cells) (sz:=4) (λ_=>rfl) Ec h)))) ?_;refine fF wu apT ?_;intro b20 Dq iR;refine sa 0 iR Hy ?_;intro Jg jw;refine zN 2 ?_;have jv:=jw.drew;refine fC 14 10 jv [4] ?_;iterate 5 refine gM ?_
  refine gk (v:= .slice Ab (rs.length+q) cb) 5 rfl (St.del 4 jv) (λ_ ZE=>(aj rfl rfl (ay Tryz.underlying162 rfl (St.cl 3 ZE rfl oW)))) ?_;refine gM ?_;refine gk (v:= .agg #[iV x18.msg.no,iV x18.msg.body]) 7 rfl (St.del 4 jv) (λ_ alh=>(aj rfl rfl (aA (cs:=[iV x18.msg.no,iV x18.msg.body]) Tryz.underlying209 rfl EM rfl (St.rg 0 alh rfl (nP (x:=2) (m:=2) rfl))))) ?_;refine eP (m:=5) (r:=8) (by kernel_rfl) ?_;refine lM (i:=8) rfl rfl (V:=λb=> .slice (aD b 0) 1 1) (row:= #[iV x18.msg.no,iV x18.msg.body]) (t:=209) jv (wn rfl) rfl rfl (aU (vs:=[(0,.agg #[iV x18.msg.no,iV x18.msg.body])]) rfl ⟨rfl,rfl,trivial⟩ (by kernel_rfl)) ?_;intro b34 Yc nT;refine gM ?_;refine eP (m:=4) (r:=9) (by kernel_rfl) ?_;refine kK (i:=9) rfl rfl (news:=[iV x18.msg.no,iV x18.msg.body]) (xs':=(rs++(ls.take (q+1)).map (·.msg)).flatMap fT.cells) 5 nT (wn rfl) rfl rfl rfl rfl rfl rfl (St.lV (xs:=[iV x18.msg.no,iV x18.msg.body]) 0 nT rfl rfl rfl) Tryz.underlying162 Uj rfl (by decide) (bX rfl) (by simp only [maxLen];omega) (by omega) (jM (enc:=fT.cells) (by rw [List.append_assoc,JH (f:=λx:Ls=>x.msg) Ec]) rfl) ?_;intro A37 c38 ZF aGX aGY uj;refine gM ?_;refine eD (by kernel_rfl) rfl rfl rfl ?_;refine zN 3 ?_;refine jq 4 uj PE ?_ (hs:=by exact Il);intro w43 EU;refine zQ ?_;refine iU ?_;refine zN 3 ?_;refine vv (v:=iV ((q+1:Nat):Int)) gN ?_;refine zN 2 ?_;have oD:=EU.aR [1,0];refine aS (q+1,A37,c38) ?_ ⟨rfl,rfl,rfl,rfl,rfl,rfl,trivial⟩ (by first | omega | (dsimp only;omega));exact ⟨(by dsimp only;omega),oD⟩
 refine zN 12 ?_;obtain rfl:q=ls.length:=by omega
 have nG:=wu;rw [List.take_length] at nG;refine zN 4 ?_;refine vv (aj rfl rfl (ay Tryz.underlying162 rfl (St.cl 2 nG rfl oW))) ?_;have hml:(rs++ls.map (·.msg)).length=rs.length+ls.length:=by simp
 have HS:=λA c w (ho:World.ownsRow w B 209 2 (.slice A (rs++ls.map (·.msg)).length c) (rs++ls.map (·.msg)).length ((rs++ls.map (·.msg)).flatMap fT.cells))=>Tw A c (rs++ls.map (·.msg)) w ho (by omega);rw [hml] at HS;refine dI axn (HS Ab cb _ (nG.own 3 rfl)) ?_;rintro _ w47 ⟨rfl,d49,aqg,ayk,aqh,aqi⟩;refine ⟨_,rfl,?_⟩;have wo:=nG.append 3 rfl aqi aqh (.inl rfl);have hdl:=aen aqg ayk hA hN;clear HS aqh aqi nG;refine zN 8 ?_;refine jq 2 wo PG ?_ (hs:=by exact Im);intro ZG uK;refine zN 8 ?_;refine vv (aj rfl rfl (ay Tryz.underlying3 rfl (St.cl 2 uK rfl xP))) ?_;refine vv (v:=iV (ep+1)) gN ?_;refine zN 3 ?_;refine jq 2 uK mZ ?_ (hs:=by exact aif);intro w56 qH;refine zN 8 ?_;refine jq 2 qH mZ ?_ (hs:=by exact X9);intro w58 AX;refine zN 5 ?_;refine sa 0 AX dw ?_;intro Ym EW;refine zN 5 ?_;have Jh:=EW.aR [1,0];have wz:=Jh.bH 1 rfl;have S64:=wz.seal 2 rfl Rd.none_ (λ(a:Addr) (h:(none:Option Addr)=some a)=>by cases h);have hln:d49.length=rs.length+ls.length:=by rw [aqg.length_eq,hml]
 rw [aoj h1,<-hdl];refine ⟨rfl,Ab,cb,none,0,?_⟩;dsimp only;rw [hln];exact S64
theorem OQ {t z:Int} {f:Nat->Bool}: ∀ {k:Nat},z∈jo t f k-> ∃ j,j<k/\f j=true/\z=t-8+j
 | 0,h=>by simp [jo] at h
 | k+1,h=>by
  unfold jo at h
  split at h
  ·rename_i hf
   rcases List.mem_append.1 h with h | h
   ·obtain ⟨j,h1,h2⟩:=OQ h;exact ⟨j,by omega,h2⟩
   rw [List.mem_singleton] at h;exact ⟨k,by omega,hf,h⟩
  obtain ⟨j,h1,h2⟩:=OQ h;exact ⟨j,by omega,h2⟩
theorem aer {t:Int} {bs:List Bool} {i:Nat} (hi:i<8):(abL t bs).at i=bs.getD i false:=by
 have h:i=0\/i=1\/i=2\/i=3\/i=4\/i=5\/i=6\/i=7:=by omega
 rcases h with rfl | rfl | rfl | rfl | rfl | rfl | rfl | rfl<;>rfl
theorem aoz {x:kG} {id:Int} (h:(pX x id).2=0):dG (BQ x id)=0:=by
 obtain ⟨h1,h2,h3⟩:=FP h;have h0:=rQ h1;have ayl:=Pn h1;have hx:ED x.top x.at=true:=by
  unfold dG at h1
  split at h1
  ·rename_i hh
   simp only [Bool.and_eq_true] at hh;exact hh.1.2
  cases h1
 have ht:(BQ x id).top=max x.top (id+1):=rfl;have hat: ∀ i,i<8->(BQ x id).at i=decide (max x.top (id+1)-8+i∈jo x.top x.at 8++[id]):=λi hi=>by
  unfold BQ;rw [aer hi,Wi _ _ _ hi]
 unfold dG;refine if_pos ?_;have hw:ED (BQ x id).top (BQ x id).at=true:=qO.2 λk hk hb=>by
  rw [hat k hk,decide_eq_true_eq] at hb;rw [ht]
  rcases List.mem_append.1 hb with hb | hb
  ·obtain ⟨j,j1,j2,j3⟩:=OQ hb;have:=qO.1 hx j j1 j2;omega
  rw [List.mem_singleton] at hb;omega
 have h7:(BQ x id).b7=true:=by
  show (BQ x id).at 7=true
  rw [hat 7 (by omega),decide_eq_true_eq];by_cases c:x.top<=id
  ·rw [show max x.top (id+1)=id+1 by omega];exact List.mem_append_right _ (by rw [List.mem_singleton];omega)
  rw [show max x.top (id+1)=x.top by omega];refine List.mem_append_left _ ?_
  rcases ayl with ⟨h4,_⟩ | ⟨_,h5,h6⟩
  ·omega
  have:=List.getLast_mem h5;rw [List.getLastD_eq_getLast?,List.getLast?_eq_some_getLast h5,Option.getD_some] at h6;rw [h6] at this;rwa [show x.top-8+((7:Nat):Int)=x.top-1 by omega]
 rw [hw,h7,ht];simp only [Bool.and_true,Bool.or_true,Bool.and_eq_true,decide_eq_true_eq];omega
theorem aiD {x:kG} {id:Int} (h:(iT x id).2.2=0) (h1:(iT x id).2.1=true):dG (iT x id).1=0:=by
 unfold iT at h h1⊢;by_cases c1:(pX x id).2≠0
 ·rw [if_pos c1] at h;exact absurd h c1
 rw [if_neg c1] at h h1⊢;by_cases c2:(pX x id).1=true
 ·rw [if_pos c2] at h1;cases h1
 rw [if_neg c2];exact aoz (Classical.not_not.1 c1)
section
variable {ep nx gv p:Int} {rs:List fT} {ls:List Ls} {W:jV}
theorem Dt: ∀ {rs:List fT} {p:Int},jL nx p rs=true↔(∀ x∈rs,qU nx x=true/\p<x.no)/\rs.Pairwise λa b=>a.no<b.no
 | [],p=>by simp [jL]
 | m::r,p=>by
  simp only [jL,Bool.and_eq_true,decide_eq_true_eq,Dt (rs:=r),List.pairwise_cons,List.mem_cons,forall_eq_or_imp]
  constructor
  ·rintro ⟨⟨h1,h2⟩,h3,h4⟩;exact ⟨⟨⟨h1,h2⟩,λx hx=>⟨(h3 x hx).1,Int.lt_trans h2 (h3 x hx).2⟩⟩,λx hx=>(h3 x hx).2,h4⟩
  rintro ⟨⟨⟨h1,h2⟩,h3⟩,h4,h5⟩;exact ⟨⟨h1,h2⟩,λx hx=>⟨(h3 x hx).1,h4 x hx⟩,h5⟩
theorem Ji: ∀ {ls:List Ls} {p:Int},kT ep nx gv p ls=true↔(∀ x∈ls,qU nx x.msg=true/\x.dZ=ep/\p<x.hno/\x.hno<gv)/\ls.Pairwise λa b=>a.hno<b.hno
 | [],p=>by simp [kT]
 | m::r,p=>by
  simp only [kT,K6,Bool.and_eq_true,decide_eq_true_eq,Ji (ls:=r),List.pairwise_cons,List.mem_cons,forall_eq_or_imp]
  constructor
  ·rintro ⟨⟨h1,h2,h2',alr⟩,h3,h4⟩;exact ⟨⟨⟨h1,h2,h2',alr⟩,λx hx=>⟨(h3 x hx).1,(h3 x hx).2.1,Int.lt_trans h2' (h3 x hx).2.2.1,(h3 x hx).2.2.2⟩⟩,λx hx=>(h3 x hx).2.2.1,h4⟩
  rintro ⟨⟨⟨h1,h2,h2',alr⟩,h3⟩,h4,h5⟩;exact ⟨⟨h1,h2,h2',alr⟩,λx hx=>⟨(h3 x hx).1,(h3 x hx).2.1,h4 x hx,(h3 x hx).2.2.2⟩,h5⟩
theorem Ry {nx':Int} {m:fT} (h:qU nx m=true) (hn:nx<=nx'):qU nx' m=true:=by
 have:=wW h;exact decide_eq_true (by omega)
theorem PZ (h:QE ep nx gv rs ls) (h1:zi W) (h2:jL nx (-1) rs=true) (h3:kT ep nx gv (-1) ls=true) (h4:(nE rs ls).Nodup):fP ep nx gv rs ls W=0:=by
 unfold fP;rw [if_neg (λe=>e h),if_neg (λe=>e h1),if_pos ⟨h2,h3,h4⟩]
theorem aes {k:Nat} {y:kG} (h:zi W) (hy:dG y=0) (hk:k<4):zi (W.put k y):=λj hj=>by
 have h0:=h 0 (by omega);have h1:=h 1 (by omega);have h2:=h 2 (by omega);have h3:=h 3 (by omega);have hk':k=0\/k=1\/k=2\/k=3:=by omega
 have hj':j=0\/j=1\/j=2\/j=3:=by omega
 rcases hk' with rfl | rfl | rfl | rfl<;>rcases hj' with rfl | rfl | rfl | rfl<;>first | exact hy | exact h0 | exact h1 | exact h2 | exact h3
theorem JK {m:fT}: ∀ {l:List fT},(jN m l).Perm (m::l)
 | []=> .refl _
 | x::l=>by
  unfold jN
  split
  ·exact .refl _
  exact ((JK (l:=l)).cons x).trans (.swap m x l)
theorem Yn {m:fT}: ∀ {l:List fT},qV l->qV (jN m l)
 | [],_=>List.pairwise_singleton _ _
 | x::l,h=>by
  obtain ⟨h1,h2⟩:=List.pairwise_cons.1 h;unfold jN
  split
  ·rename_i hm
   refine List.pairwise_cons.2 ⟨λy hy=>?_,h⟩
   rcases List.mem_cons.1 hy with rfl | hy
   ·omega
   have:=h1 y hy;omega
  rename_i hm
  refine List.pairwise_cons.2 ⟨λy hy=>?_,Yn h2⟩
  rcases List.mem_cons.1 (JK.mem_iff.1 hy) with rfl | hy
  ·omega
  exact h1 y hy
theorem Nu: ∀ (ls:List Ls) (rs:List fT),(ls.foldl (λl x=>jN x.msg l) rs).Perm (rs++ls.map (·.msg))
 | [],rs=>by simp
 | x::ls,rs=>by
  refine (Nu ls (jN x.msg rs)).trans ?_;refine (JK.append_right _).trans ?_;rw [List.map_cons];exact (List.perm_middle).symm
theorem Rz: ∀ (ls:List Ls) (rs:List fT),qV rs->qV (ls.foldl (λl x=>jN x.msg l) rs)
 | [],rs,h=>h
 | x::ls,rs,h=>Rz ls _ (Yn h)
theorem WO {l:List fT} (h:qV l) (hn:(l.map (·.no)).Nodup):l.Pairwise λa b=>a.no<b.no:=by
 have h2:l.Pairwise λa b=>a.no≠b.no:=List.pairwise_map.1 hn;exact (h.and h2).imp λh=>by omega
end
theorem aeu {Q:Qd} {e:Ev} (h:Q.fault=0) (he:bq e=0):(stepM Q e).1.fault=0:=by
 obtain ⟨hr,hw,h2,h3,h4⟩:=OO h;have hp:=Yl he;obtain ⟨ep,nx,gv,rs,ls,W⟩:=Q;dsimp only at hr hw h2 h3 h4;obtain ⟨r1,r2,r3,r4,r5,r6,r7⟩:=hr;obtain ⟨a1,a2⟩:=Dt.1 h2;obtain ⟨b1,b2⟩:=Ji.1 h3;unfold stepM
 split
 ·unfold Cb
  split
  ·exact h
  split
  ·exact h
  split
  ·exact h
  rename_i k1 k2 k3 k4
  dsimp only at k2 k3 k4⊢;have hlt: ∀ z∈nE rs ls,z<nx:=λz hz=>by
   unfold nE at hz
   rcases List.mem_append.1 hz with hz | hz
   ·obtain ⟨x,hx,rfl⟩:=List.mem_map.1 hz;exact (wW (a1 x hx).1).2.1
   obtain ⟨x,hx,rfl⟩:=List.mem_map.1 hz;exact (wW (b1 x hx).1).2.1
  have hbd:0<=e.body/\e.body<=1000000:=by
   unfold bq at he
   repeat' split at he
   all_goals first
    | (cases he;done)
    | (simp only [jU,Bool.and_eq_true,decide_eq_true_eq,not_and,Classical.not_not] at*;omega)
  show fP ep (nx+1) gv (rs++[⟨nx,e.body⟩]) ls (W.put e.producer.toNat (iT (W.at e.producer.toNat) e.id).1)=0
  refine PZ ⟨r1,r2,by omega,by omega,r5,r6,by rw [List.length_append,List.length_singleton];omega⟩ (aes hw (aiD (Classical.not_not.1 k2) (by simpa using k3)) (by omega)) (Dt.2 ⟨λx hx=>?_,?_⟩) (Ji.2 ⟨λx hx=>⟨Ry (b1 x hx).1 (by omega),(b1 x hx).2⟩,b2⟩) ?_
  ·rcases List.mem_append.1 hx with hx | hx
   ·exact ⟨Ry (a1 x hx).1 (by omega),(a1 x hx).2⟩
   rw [List.mem_singleton] at hx;subst hx;exact ⟨decide_eq_true (by dsimp only;omega),by dsimp only;omega⟩
  ·refine List.pairwise_append.2 ⟨a2,List.pairwise_singleton _ _,λx hx y hy=>?_⟩;rw [List.mem_singleton] at hy;subst hy;exact hlt _ (List.mem_append_left _ (List.mem_map_of_mem hx))
  have:(nE (rs++[⟨nx,e.body⟩]) ls).Perm (nx::nE rs ls):=by
   unfold nE;rw [List.map_append,List.append_assoc];exact List.perm_middle
  exact this.nodup_iff.2 (List.nodup_cons.2 ⟨λhm=>by have:=hlt _ hm;omega,h4⟩)
 split
 ·unfold Ip;dsimp only
  split
  ·exact h
  rename_i m rest
  split
  ·exact h
  rename_i k1
  obtain ⟨a3,a4⟩:=List.pairwise_cons.1 a2;have hm:=a1 m (by simp)
  show fP ep nx (gv+1) rest (ls++[⟨ep,gv,m⟩]) W=0
  refine PZ ⟨r1,r2,r3,r4,by omega,by omega,by rw [List.length_append,List.length_singleton];rw [List.length_cons] at r7;omega⟩ hw (Dt.2 ⟨λx hx=>a1 x (by simp [hx]),a4⟩) (Ji.2 ⟨λx hx=>?_,?_⟩) ?_
  ·rcases List.mem_append.1 hx with hx | hx
   ·have:=b1 x hx;exact ⟨this.1,this.2.1,this.2.2.1,by omega⟩
   rw [List.mem_singleton] at hx;subst hx;exact ⟨hm.1,rfl,by dsimp only;omega,by dsimp only;omega⟩
  ·refine List.pairwise_append.2 ⟨b2,List.pairwise_singleton _ _,λx hx y hy=>?_⟩;rw [List.mem_singleton] at hy;subst hy;exact (b1 x hx).2.2.2
  refine (List.Perm.nodup_iff ?_).1 h4;unfold nE;rw [List.map_cons,List.map_append,List.cons_append,<-List.append_assoc];exact (List.perm_append_comm (l₁:=[m.no]) (l₂:=rest.map (·.no)++ls.map (·.msg.no)))
 split
 ·unfold FV;dsimp only
  split
  ·exact h
  split
  ·exact h
  have hsub:(ls.filter λx=>decide (x.hno≠e.hno)).Sublist ls:=List.filter_sublist
  show fP ep nx gv rs (ls.filter λx=>decide (x.hno≠e.hno)) W=0
  refine PZ ⟨r1,r2,r3,r4,r5,r6,by have:=hsub.length_le;omega⟩ hw h2 (Ji.2 ⟨λx hx=>b1 x (hsub.subset hx),b2.sublist hsub⟩) ?_;unfold nE at h4⊢;exact h4.sublist ((List.Sublist.refl _).append (hsub.map _))
 unfold K7;dsimp only
 split
 ·exact h
 have hP:=Nu ls rs;have hlen:=hP.length_eq;rw [List.length_append,List.length_map] at hlen;have hnn:((ls.foldl (λl x=>jN x.msg l) rs).map (·.no)).Nodup:=by
  refine ((hP.map (·.no)).nodup_iff).2 ?_;unfold nE at h4;rw [List.map_append,List.map_map];exact h4
 show fP (ep+1) nx 0 (ls.foldl (λl x=>jN x.msg l) rs) [] W=0
 refine PZ ⟨by omega,by omega,r3,r4,by omega,by omega,by rw [List.length_nil];omega⟩ hw (Dt.2 ⟨λx hx=>?_,WO (Rz ls rs (a2.imp λh=>Int.le_of_lt h)) hnn⟩) rfl ?_
 ·rcases List.mem_append.1 (hP.mem_iff.1 hx) with hx | hx
  ·exact a1 x hx
  obtain ⟨y,hy,rfl⟩:=List.mem_map.1 hx;have:=(b1 y hy).1;exact ⟨this,by have:=wW this;omega⟩
 unfold nE;rw [List.map_nil,List.append_nil];exact hnn
theorem aoA {Q:Qd} {e:Ev} (h:(iL Q e).2.2.2=0):(iL Q e).1.fault=0:=by
 by_cases c1:Q.fault=0
 ·by_cases c2:bq e=0
  ·rw [Cg c1 c2];exact aeu c1 c2
  rw [Vg c1 c2] at h;exact absurd h c2
 rw [PY c1] at h;exact absurd h c1
theorem ZH:dV.fault=0:=by
 refine PZ ⟨by decide,by decide,by decide,by decide,by decide,by decide,by decide⟩ (λj hj=>?_) rfl rfl List.nodup_nil;have hj':j=0\/j=1\/j=2\/j=3:=by omega
 rcases hj' with rfl | rfl | rfl | rfl<;>decide
end
end Go.Proofs.YthhnonpehllibaaGreatDoor
