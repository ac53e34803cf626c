import Derived.Shelf.SlicesG.Cmp
import Derived.Shelf.SlGeneric
import Derived.Ground.SlsfProg
import Derived.Ground.SlgcProg
import Derived.Test.YtnhimdkpkmbhlaaGreatDoorG7323a
import Derived.Test.YtnhimdkpkmbhlaaGreatDoorG8681f
import Derived.Test.YtnhimdkpkmbhlaaGreatDoorGffebd
set_option maxRecDepth 100000
set_option maxHeartbeats 8000000
set_option linter.unusedSimpArgs false
set_option linter.unusedVariables false
namespace Go.Proofs.YtnhimdkpkmbhlaaGreatDoor
section
section
open Go.Shelf Go.RowKit Go.Lib Go.Sort
def V8:Go.Shelf.Ren:=⟨λ| 6=>46 | 15=>66 | 14=>65 | 28=>95 | 29=>96 | 20=>87 | 21=>88 | 22=>89 | 23=>90 | 24=>91 | 25=>92 | 26=>93 | 27=>94 | 46=>116 | 47=>117 | 48=>118 | 49=>119 | 50=>120 | 57=>150 | n=>n,λ| 22=>39 | 24=>62 | 25=>134 | 3=>3 | 39=>163 | 0=>0 | 53=>198 | 55=>200 | 4=>4 | 46=>191 | 45=>190 | 50=>195 | 5=>5 | 9=>9 | 66=>215 | 70=>139 | 76=>243 | 77=>244 | n=>n,λ| n=>n⟩
theorem aaH:Go.Proofs.SlLaysF0.n6 Tryz.prog V8:={
 mixed:=by kernel_rfl
 f6:=⟨Tryz.f46.name,by decide,Tryz.func46.trans (congrArg some (by kernel_rfl))⟩
 f14:=⟨Tryz.f65.name,by decide,Tryz.func65.trans (congrArg some (by kernel_rfl))⟩
 f15:=Tryz.func66.trans (congrArg some (by kernel_rfl))
 f20:=⟨Tryz.f87.name,by decide,Tryz.func87.trans (congrArg some (by kernel_rfl))⟩
 f21:=⟨Tryz.f88.name,by decide,Tryz.func88.trans (congrArg some (by kernel_rfl))⟩
 f22:=⟨Tryz.f89.name,by decide,Tryz.func89.trans (congrArg some (by kernel_rfl))⟩
 f23:=⟨Tryz.f90.name,by decide,Tryz.func90.trans (congrArg some (by kernel_rfl))⟩
 f24:=⟨Tryz.f91.name,by decide,Tryz.func91.trans (congrArg some (by kernel_rfl))⟩
 f25:=⟨Tryz.f92.name,by decide,Tryz.func92.trans (congrArg some (by kernel_rfl))⟩
 f26:=⟨Tryz.f93.name,by decide,Tryz.func93.trans (congrArg some (by kernel_rfl))⟩
 f27:=⟨Tryz.f94.name,by decide,Tryz.func94.trans (congrArg some (by kernel_rfl))⟩
 f28:=Tryz.func95.trans (congrArg some (by kernel_rfl))
 f29:=Tryz.func96.trans (congrArg some (by kernel_rfl))
 f46:=⟨Tryz.f116.name,by decide,Tryz.func116.trans (congrArg some (by kernel_rfl))⟩
 f47:=Tryz.func117.trans (congrArg some (by kernel_rfl))
 f48:=Tryz.func118.trans (congrArg some (by kernel_rfl))
 f49:=⟨Tryz.f119.name,by decide,Tryz.func119.trans (congrArg some (by kernel_rfl))⟩
 f50:=⟨Tryz.f120.name,by decide,Tryz.func120.trans (congrArg some (by kernel_rfl))⟩
 f57:=⟨Tryz.f150.name,by decide,Tryz.func150.trans (congrArg some (by kernel_rfl))⟩
 t0:=Tryz.underlying0
 a0:=Tryz.isAgg0
 z0:=Tryz.sizeOf0
 v0:=Tryz.zeroValue0
 t3:=Tryz.underlying3
 a3:=Tryz.isAgg3
 z3:=Tryz.sizeOf3
 v3:=Tryz.zeroValue3
 t4:=Tryz.underlying4
 a4:=Tryz.isAgg4
 z4:=Tryz.sizeOf4
 v4:=Tryz.zeroValue4
 t5:=Tryz.underlying5
 a5:=Tryz.isAgg5
 z5:=Tryz.sizeOf5
 v5:=Tryz.zeroValue5
 t9:=Tryz.underlying9
 a9:=Tryz.isAgg9
 z9:=Tryz.sizeOf9
 v9:=Tryz.zeroValue9
 t22:=Tryz.underlying39
 a22:=Tryz.isAgg39
 z22:=Tryz.sizeOf39
 v22:=Tryz.zeroValue39
 t25:=Tryz.underlying134
 a25:=Tryz.isAgg134
 z25:=Tryz.sizeOf134
 v25:=Tryz.zeroValue134
 t39:=Tryz.underlying163
 a39:=Tryz.isAgg163
 z39:=Tryz.sizeOf163
 v39:=Tryz.zeroValue163
 t45:=Tryz.underlying190
 a45:=Tryz.isAgg190
 z45:=Tryz.sizeOf190
 v45:=Tryz.zeroValue190
 t46:=Tryz.underlying191
 a46:=Tryz.isAgg191
 z46:=Tryz.sizeOf191
 v46:=Tryz.zeroValue191
 t50:=Tryz.underlying195
 a50:=Tryz.isAgg195
 z50:=Tryz.sizeOf195
 v50:=Tryz.zeroValue195
 t53:=Tryz.underlying198
 a53:=Tryz.isAgg198
 z53:=Tryz.sizeOf198
 v53:=Tryz.zeroValue198
 t55:=Tryz.underlying200
 a55:=Tryz.isAgg200
 z55:=Tryz.sizeOf200
 v55:=Tryz.zeroValue200
 t66:=Tryz.underlying215
 a66:=Tryz.isAgg215
 z66:=Tryz.sizeOf215
 v66:=Tryz.zeroValue215
 t70:=Tryz.underlying139
 a70:=Tryz.isAgg139
 z70:=Tryz.sizeOf139
 v70:=Tryz.zeroValue139
 t76:=Tryz.underlying243
 a76:=Tryz.isAgg243
 z76:=Tryz.sizeOf243
 v76:=Tryz.zeroValue243
 t77:=Tryz.underlying244
 a77:=Tryz.isAgg244
 z77:=Tryz.sizeOf244
 v77:=Tryz.zeroValue244 }
def Ze:Go.Shelf.Ren:=⟨λ| 5=>67 | 7=>97 | n=>n,λ| 22=>3 | 3=>3 | 4=>4 | n=>n,λ| n=>n⟩
theorem arh:Go.Proofs.SlLaysC2.n5 Tryz.prog Ze:={
 mixed:=by kernel_rfl
 f5:=⟨Tryz.f67.name,by decide,Tryz.func67.trans (congrArg some (by kernel_rfl))⟩
 f7:=⟨Tryz.f97.name,by decide,Tryz.func97.trans (congrArg some (by kernel_rfl))⟩
 t3:=Tryz.underlying3
 a3:=Tryz.isAgg3
 z3:=Tryz.sizeOf3
 v3:=Tryz.zeroValue3
 t4:=Tryz.underlying4
 a4:=Tryz.isAgg4
 z4:=Tryz.sizeOf4
 v4:=Tryz.zeroValue4
 t22:=Tryz.underlying3
 a22:=Tryz.isAgg3
 z22:=Tryz.sizeOf3
 v22:=Tryz.zeroValue3 }
end
open Go.Shelf
open ChangeShapes WideShapes ChangeAt RowKit
open Go.Sort (HoldsK PermIn SortedIn SWO grow)
instance:Inhabited fD:=⟨⟨0,0⟩⟩
def Oa (x y:fD):Int:=Lib.compareInt x.no y.no
theorem ait (x y:fD):ltOf Oa x y=decide (x.no<y.no):=by
 unfold ltOf Oa Lib.compareInt;by_cases h1:x.no<y.no
 ·simp [h1]
 by_cases h2:y.no<x.no<;>simp [h1,h2]
theorem awW:SWO (ltOf Oa) where
 irrefl x:=by rw [ait];simp
 trans x y z h1 h2:=by rw [ait] at*;simp at*;omega
 ntrans x y z h1 h2:=by rw [ait] at*;simp at*;omega
theorem Zf (x y:fD) (W:World):Calls Tryz.prog 47 #[.agg #[.int .i64 x.no,.int .i64 x.body],.agg #[.int .i64 y.no,.int .i64 y.body]] W λe w'=>e= .returned (.int .i64 (Oa x y))/\ ∃ q os',w'=grow (W.drewN q) os':=by
 have hcon:=λW'=>AnyG.cmp_Compare_int arh x.no y.no W';change ∀ W',Calls Tryz.prog 67 _ _ _ at hcon;unfold Oa;generalize Lib.compareInt x.no y.no=r at hcon⊢
 go_enter Tryz.func47,Tryz.ntmps47
 go_wp2_with (go_at_call 67;refine (hcon _).mono ?_;rintro e w' ⟨rfl,rfl⟩)
 go_ret
 exact ⟨rfl,0,_,by rw [Go.Sort.alloc_eq_grow,Go.Sort.alloc_eq_grow,Go.Sort.grow_grow];rfl⟩
theorem ari: ∀ w,(isAgg 62).run Tryz.prog w= .ok true w:=by
 intro w;simp [isAgg,run_underlying Tryz.underlying62,Sem.run_bind,Result.andThen]
theorem ali: ∀ w,(Go.sizeOf 62).run Tryz.prog w= .ok 2 w:=by
 intro w;obtain ⟨z,hq,hs⟩: ∃ z,Tryz.prog.info? 62=some z/\z.size=2:=by
  have h:=Gb
  cases hi:Tryz.prog.info? 62 with
  | none=>simp [hi] at h
  | some z=>exact ⟨z,rfl,by simpa [hi] using h⟩
 simp [sizeOf,typeInfo,hq,hs,Sem.run_bind,Result.andThen]
def sJ (l:List fD):Prop:=l.Pairwise λa b=>a.no<=b.no
theorem V9 (A:Option Addr) (c:Nat) (rs:List fD) (w:World) {B:Nat} (ho:w.ownsRow B 62 2 (.slice A rs.length c) rs.length (rs.flatMap fD.cells)) (hl:rs.length<=1000000):
  Calls Tryz.prog 46 #[.slice A rs.length c,.func (.func 47) #[] #[]] w λe w'=>e= .returned (.tuple #[])/\ ∃ d:List fD,d.Perm rs/\sJ d/\
   w'.ownsRow B 62 2 (.slice A rs.length c) rs.length (d.flatMap fD.cells)/\w.grownBy w' (Value.slice A rs.length c).ownBlock:=by
 rcases Nat.eq_zero_or_pos rs.length with h0 | h0
 ·have e0:rs=[]:=List.length_eq_zero_iff.1 h0;subst e0;refine (AnyF.slices_SortFunc_none aaH A c (.func (.func 47) #[] #[]) w).mono ?_;rintro e w' ⟨rfl,rfl⟩;exact ⟨rfl,[],List.Perm.refl _,List.Pairwise.nil,ho,⟨rfl,rfl,rfl,Nat.le_refl _,λ_ _ _=>rfl⟩⟩
 obtain ⟨g,rfl⟩:=Fa ho h0;have hg:g<w.heap.size:=EU ho g rfl;have hH:=abS (enc:=fD.cells) (k:=2) (λ_=>rfl) ho rfl;have hcon:=AnyQ.slices_SortFunc aaH 2 ari ali fD.cells (λ_=>rfl) (λx v hv=>by simp [fD.cells] at hv;rcases hv with rfl | rfl<;>rfl) Oa awW 47 #[] g 0 c rs.toArray w aAm (λ_ _ _ _ x y=>Zf x y _) hH hg (by simp;omega);change Calls Tryz.prog 46 _ _ _ at hcon;rw [List.size_toArray] at hcon;refine hcon.mono ?_;rintro e w' ⟨rfl,d',m,os,hp,hs,rfl⟩;obtain ⟨p1,_,p3⟩:=hp
 replace p1:d'.size=rs.length:=p1
 obtain ⟨q1,q2⟩:=Y9 (enc:=fD.cells) (k:=2) (d':=d') (m:=m) (os:=os) (λ_=>rfl) ho p1;refine ⟨rfl,d'.toList,?_,?_,q1,q2⟩
 ·have e1:d'.extract 0 rs.length=d':=by rw [<-p1];exact Array.extract_size
  have e2:rs.toArray.extract 0 rs.length=rs.toArray:=by simp
  rw [e1,e2] at p3;simpa using p3
 unfold sJ;rw [List.pairwise_iff_getElem];intro i j hi hj hij;rw [Array.length_toList] at hi hj;have h:=hs i j (Nat.zero_le _) hij (by omega);rw [ait,getElem!_pos d' j hj,getElem!_pos d' i hi] at h;simp only [Array.getElem_toList];simpa using h
theorem BM (m:fD): ∀ l:List fD,(ku m l).Perm (m::l)
 | []=>List.Perm.refl _
 | x::l=>by
  unfold ku
  split
  ·exact List.Perm.refl _
  exact ((BM m l).cons x).trans (List.Perm.swap m x l)
theorem Mv {m:fD}: ∀ {l:List fD},sJ l->sJ (ku m l)
 | [],_=>by simp [ku,sJ]
 | x::l,h=>by
  obtain ⟨h1,h2⟩:=List.pairwise_cons.1 h;unfold ku
  split
  ·rename_i hlt
   refine List.pairwise_cons.2 ⟨λy hy=>?_,h⟩
   rcases List.mem_cons.1 hy with e | e
   ·rw [e];omega
   have:=h1 y e;omega
  rename_i hlt
  refine List.pairwise_cons.2 ⟨λy hy=>?_,Mv h2⟩
  rcases List.mem_cons.1 ((BM m l).mem_iff.1 hy) with e | e
  ·rw [e];omega
  exact h1 y e
theorem Cg: ∀ (ls:List Ls) (rs:List fD),(ls.foldl (λl x=>ku x.msg l) rs).Perm (rs++ls.map (·.msg))
 | [],rs=>by simp
 | x::ls,rs=>by
  rw [List.foldl_cons,List.map_cons];refine (Cg ls (ku x.msg rs)).trans ?_;refine ((BM x.msg rs).append_right _).trans ?_;rw [List.cons_append];exact List.perm_middle.symm
theorem UA: ∀ (ls:List Ls) {rs:List fD},sJ rs->sJ (ls.foldl (λl x=>ku x.msg l) rs)
 | [],_,h=>h
 | _::ls,_,h=>UA ls (Mv h)
theorem agR {rs d:List fD} {ls:List Ls} (hp:d.Perm (rs++ls.map (·.msg))) (ha:sJ d) (hA:sJ rs) (hN:(jE rs ls).Nodup):d=ls.foldl (λl x=>ku x.msg l) rs:=by
 have hF:=Cg ls rs;have hnd:((rs++ls.map (·.msg)).map (·.no)).Nodup:=by
  unfold jE at hN;rw [List.map_append,List.map_map];exact hN
 refine List.Perm.eq_of_pairwise (le:=λa b:fD=>a.no<=b.no) (λa b ha' hb' h1 h2=>?_) ha (UA ls hA) (hp.trans hF.symm);have m1:=hp.mem_iff.1 ha';have m2:=hF.mem_iff.1 hb';have e:a.no=b.no:=by omega
 have:=List.pairwise_map.1 hnd;obtain ⟨i,hi,e1⟩:=List.getElem_of_mem m1;obtain ⟨j,hj,e2⟩:=List.getElem_of_mem m2;rw [List.pairwise_iff_getElem] at this
 rcases Nat.lt_trichotomy i j with h | h | h
 ·exact absurd (by rw [e1,e2];exact e) (this i j hi hj h)
 ·subst h;rw [<-e1,<-e2]
 exact absurd (by rw [e1,e2];exact e.symm) (this j i hj hi h)
end
section
open ChangeShapes WideShapes RowKit
def bT:Qd:=⟨0,0,0,[],[],fI⟩
def Qd.row (Q:Qd) (A1:Option Addr) (c1:Nat) (A2:Option Addr) (c2:Nat):Array Value:=bO Q.ep Q.nx Q.gv (.slice A1 Q.ready.length c1) (.slice A2 Q.aF.length c2) Q.ws
noncomputable def Qd.fault (Q:Qd):Int:=gy Q.ep Q.nx Q.gv Q.ready Q.aF Q.ws
def stepM (Q:Qd) (e:Ev):Qd×iT×Bool:=
 if e.kind=1 then yt Q e.producer.toNat e.id e.body else if e.kind=2 then pz Q else if e.kind=3 then za Q e.aG e.hno else Dn Q
noncomputable def gU (Q:Qd) (e:Ev):Qd×iT×Bool×Int:=
 if Q.fault≠0 then (bT,eH,false,Q.fault) else if bE e≠0 then (bT,eH,false,bE e) else ((stepM Q e).1,(stepM Q e).2.1,(stepM Q e).2.2,0)
def alj (w:World) (r:Qd×iT×Bool×Int) (e:Ending) (w':World):Prop:= ∃ A1 c1 A2 c2,e= .returned (.tuple #[.agg (bO r.1.ep r.1.nx r.1.gv (.slice A1 r.1.ready.length c1) (.slice A2 r.1.aF.length c2) r.1.ws),r.2.1.val,.bool r.2.2.1,.int .i64 r.2.2.2])/\
 St w.heap.size w w' [.bI 2 A1 r.1.ready.length (r.1.ready.flatMap fD.cells),.bI 4 A2 r.1.aF.length (r.1.aF.flatMap Ls.cells)]
section
variable {ep nx gv p:Int} {rs:List fD} {ls:List Ls} {W:kK}
theorem Ey (h:gy ep nx gv rs ls W=0):TG ep nx gv rs ls/\Ag W/\kr nx (-1) rs=true/\kR ep nx gv (-1) ls=true/\(jE rs ls).Nodup:=by
 unfold gy at h
 split at h
 ·cases h
 split at h
 ·cases h
 split at h
 ·rename_i h1 h2 h3
  exact ⟨Classical.not_not.1 h1,Classical.not_not.1 h2,h3⟩
 cases h
theorem afj: ∀ {rs:List fD} {p:Int},kr nx p rs=true->(∀ x∈rs,p<x.no)/\rs.Pairwise λa b=>a.no<b.no
 | [],_,_=>⟨λx hx=>by simp at hx,List.Pairwise.nil⟩
 | m::r,p,h=>by
  simp only [kr,Bool.and_eq_true,decide_eq_true_eq] at h;obtain ⟨⟨_,h1⟩,h2⟩:=h;obtain ⟨h3,h4⟩:=afj h2;refine ⟨λx hx=>?_,List.pairwise_cons.2 ⟨h3,h4⟩⟩
  rcases List.mem_cons.1 hx with rfl | hx
  ·exact h1
  exact Int.lt_trans h1 (h3 x hx)
theorem alk (h:kr nx (-1) rs=true):sJ rs:=(afj h).2.imp λh=>Int.le_of_lt h
theorem aex: ∀ {ls:List Ls} {p:Int},kR ep nx gv p ls=true->(∀ x∈ls,x.dK=ep/\p<x.hno)/\ls.Pairwise λa b=>a.hno<b.hno
 | [],_,_=>⟨λx hx=>by simp at hx,List.Pairwise.nil⟩
 | m::r,p,h=>by
  simp only [kR,JW,Bool.and_eq_true,decide_eq_true_eq] at h;obtain ⟨⟨_,h0,h1,_⟩,h2⟩:=h;obtain ⟨h3,h4⟩:=aex h2;refine ⟨λx hx=>?_,List.pairwise_cons.2 ⟨λx hx=>(h3 x hx).2,h4⟩⟩
  rcases List.mem_cons.1 hx with rfl | hx
  ·exact ⟨h0,h1⟩
  exact ⟨(h3 x hx).1,Int.lt_trans h1 (h3 x hx).2⟩
theorem arj (h:kR ep nx gv (-1) ls=true): ∀ x∈ls,x.dK=ep:=λx hx=>((aex h).1 x hx).1
theorem ark (h:kR ep nx gv (-1) ls=true): ∀ (i j:Nat) (a b:Ls),ls[i]? =some a->ls[j]? =some b->a.hno=b.hno->i=j:=by
 have hp:=(aex h).2;rw [List.pairwise_iff_getElem] at hp;intro i j a b ha hb e;obtain ⟨hi,rfl⟩:=List.getElem?_eq_some_iff.1 ha;obtain ⟨hj,rfl⟩:=List.getElem?_eq_some_iff.1 hb
 rcases Nat.lt_trichotomy i j with h1 | h1 | h1
 ·have:=hp i j hi hj h1;omega
 ·exact h1
 have:=hp j i hj hi h1;omega
theorem aaI {e:Ev} (h:bE e=0):1<=e.kind/\e.kind<=4:=by
 unfold bE at h
 split at h
 ·cases h
 rename_i h1
 exact Classical.not_not.1 h1
theorem aaJ {e:Ev} (h:bE e=0):0<=e.producer/\e.producer<=3:=by
 unfold bE at h
 split at h
 ·cases h
 split at h
 ·cases h
 rename_i h1 h2
 split at h
 ·cases h
 split at h
 ·cases h
 rename_i h3 h4
 by_cases hk:e.kind=1
 ·have h5:=Classical.not_not.1 (λh6=>h2 ⟨hk,h6⟩);simp only [Bool.and_eq_true,kI,decide_eq_true_eq] at h5;omega
 have h5:=Classical.not_not.1 (λh6=>h4 ⟨hk,h6⟩);omega
end
section
variable {Q:Qd} {e:Ev}
theorem Ob (h:Q.fault≠0):gU Q e=(bT,eH,false,Q.fault):=if_pos h
theorem Sz (h:Q.fault=0) (h1:bE e≠0):gU Q e=(bT,eH,false,bE e):=by
 unfold gU;rw [if_neg (λh2=>h2 h),if_pos h1]
theorem BD (h:Q.fault=0) (h1:bE e=0):gU Q e=((stepM Q e).1,(stepM Q e).2.1,(stepM Q e).2.2,0):=by
 unfold gU;rw [if_neg (λh2=>h2 h),if_neg (λh2=>h2 h1)]
end
noncomputable def gG:Qd->List iT->List Ev->Option (Qd×List iT)
 | Q,an,[]=>some (Q,an)
 | Q,an,e::r=>if (gU Q e).2.2.2=0/\(gU Q e).2.2.1=true then gG (gU Q e).1 (an++[(gU Q e).2.1]) r else none
noncomputable def aK (l:List Ev):Qd×List iT×Int:=
 if 2000<l.length then (bT,[],1) else match gG bT [] l with
  | some r=>(r.1,r.2,0)
  | none=>(bT,[],3)
section
variable {Q:Qd} {an:List iT} {l:List Ev} {e:Ev} {k:Nat}
theorem Wh (h:l[k]? =some e) (h0:(gU Q e).2.2.2=0) (h1:(gU Q e).2.2.1=true):gG Q an (l.drop k)=gG (gU Q e).1 (an++[(gU Q e).2.1]) (l.drop (k+1)):=by
 obtain ⟨hk,hm⟩:=List.getElem?_eq_some_iff.1 h;rw [List.drop_eq_getElem_cons hk,hm,gG,if_pos ⟨h0,h1⟩]
theorem Wi (h:l[k]? =some e) (h0: ¬ ((gU Q e).2.2.2=0/\(gU Q e).2.2.1=true)):gG Q an (l.drop k)=none:=by
 obtain ⟨hk,hm⟩:=List.getElem?_eq_some_iff.1 h;rw [List.drop_eq_getElem_cons hk,hm,gG,if_neg h0]
theorem Zg (h:l.length<=k):gG Q an (l.drop k)=some (Q,an):=by
 rw [List.drop_eq_nil_of_le h];rfl
theorem H6 (h:2000<l.length):aK l=(bT,[],1):=if_pos h
theorem AX {r:Qd×List iT} (h: ¬ 2000<l.length) (h1:gG bT [] l=some r):aK l=(r.1,r.2,0):=by
 unfold aK;rw [if_neg h,h1]
theorem Fp (h: ¬ 2000<l.length) (h1:gG bT [] l=none):aK l=(bT,[],3):=by
 unfold aK;rw [if_neg h,h1]
theorem gH (h:(aK l).2.2=0):l.length<=2000:=by
 unfold aK at h
 split at h
 ·cases h
 omega
theorem agS:(stepM Q e).1.ready.length+(stepM Q e).1.aF.length<=Q.ready.length+Q.aF.length+1:=by
 unfold stepM
 split
 ·unfold yt;split; · dsimp only;omega
  split; · dsimp only;omega
  split; · dsimp only;omega
  simp only [List.length_append,List.length_cons,List.length_nil];omega
 split
 ·obtain ⟨ep,nx,gv,rs,ls,W⟩:=Q
  cases rs with
  | nil=>simp [pz]
  | cons m r=>simp only [pz];split<;>simp<;>omega
 split
 ·unfold za;split; · dsimp only;omega
  split; · dsimp only;omega
  have:=List.length_filter_le (λx:Ls=>decide (x.hno≠e.hno)) Q.aF;simp only;omega
 unfold Dn;split; · dsimp only;omega
 have h:=(Cg Q.aF Q.ready).length_eq;rw [List.length_append,List.length_map] at h;simp only [List.length_nil];omega
theorem Gm (h:(gU Q e).2.2.2=0):(gU Q e).1.ready.length+(gU Q e).1.aF.length<=501:=by
 by_cases h0:Q.fault=0
 ·by_cases h1:bE e=0
  ·rw [BD h0 h1];have h2:=(Ey h0).1;unfold TG at h2;have:=agS (Q:=Q) (e:=e);simp only;omega
  rw [Sz h0 h1];simp [bT]
 rw [Ob h0];simp [bT]
theorem D9: ∀ {l:List Ev} {Q:Qd} {an:List iT} {r:Qd×List iT},Q.ready.length+Q.aF.length<=501->gG Q an l=some r->r.1.ready.length+r.1.aF.length<=501/\r.2.length=an.length+l.length
 | [],Q,an,r,hQ,h=>by
  simp only [gG,Option.some.injEq] at h;subst h;exact ⟨hQ,by simp⟩
 | e::l,Q,an,r,hQ,h=>by
  rw [gG] at h
  split at h
  ·rename_i hc
   obtain ⟨h1,h2⟩:=D9 (Gm hc.1) h;exact ⟨h1,by rw [h2];simp;omega⟩
  cases h
theorem Zh:(aK l).1.ready.length+(aK l).1.aF.length<=501:=by
 unfold aK
 split
 ·simp [bT]
 split
 ·rename_i r hr
  exact (D9 (by simp [bT]) hr).1
 simp [bT]
end
structure bJ where
 role:Int
 ep:Int
 fr:Int
 tg:Int
 rd:Int
 evs:List Ev
 deriving DecidableEq
def bP:bJ:=⟨0,0,0,0,0,[]⟩
def aS:Ev:=⟨4,0,0,0,0,0⟩
def bF (b:bJ):Prop:=(b.role=0/\0<=b.ep/\b.ep<=1048576/\b.fr=0/\b.tg=0/\b.rd=0/\b.evs.length=0)\/(1<=b.ep/\b.ep<=1048576/\
 ((b.role=1/\b.fr=0/\b.tg=0/\b.rd=0)\/(b.role=2/\b.fr=0/\0<=b.tg/\b.tg<5/\0<=b.rd/\b.rd<=4)\/(b.role=3/\b.fr=0/\0<=b.tg/\b.tg<5/\b.rd=0)\/(b.role=4/\0<=b.fr/\b.fr<5/\b.tg=0/\b.rd=0)))
instance (b:bJ):Decidable (bF b):=by unfold bF;exact inferInstance
open Classical in
noncomputable def au (b:bJ):Int:=if bF b/\(aK b.evs).2.2=0 then 0 else 6
section
variable {b:bJ}
theorem mW (h:bF b) (h1:(aK b.evs).2.2=0):au b=0:=if_pos ⟨h,h1⟩
theorem Lg (h: ¬ bF b):au b=6:=if_neg λh1=>h h1.1
theorem Rs (h: ¬ (aK b.evs).2.2=0):au b=6:=if_neg λh1=>h h1.2
theorem eu (h:au b=0):bF b/\(aK b.evs).2.2=0:=by
 unfold au at h
 split at h
 ·assumption
 cases h
end
noncomputable def gT (b:bJ) (e:Ev):bJ×iT×Bool×Int:=
 if au b≠0 then (bP,eH,false,au b) else if bE e≠0 then (bP,eH,false,bE e) else if e.kind=4 then (bP,eH,false,3)
 else if b.role=3 then (b,nN 12,false,0) else if b.role≠1/\b.role≠2 then (b,nN 7,false,0)
 else if (gU (aK b.evs).1 e).2.2.1=false then (b,(gU (aK b.evs).1 e).2.1,false,0)
 else if 1999<=b.evs.length then (b,nN 14,false,0) else ({ b with evs:=b.evs++[e] },(gU (aK b.evs).1 e).2.1,true,0)
noncomputable def iZ (b:bJ) (ep:Int):bJ×Int:=
 if au b≠0 then (bP,au b) else if ¬ (1<=ep/\ep<=1048576) then (bP,2) else if b.role≠0 then (bP,8) else if ep<=b.ep then (bP,15) else (⟨1,ep,0,0,0,[]⟩,0)
noncomputable def AY (b:bJ) (tg:Int):bJ×Int:=
 if au b≠0 then (bP,au b) else if ¬ (0<=tg/\tg<=4) then (bP,2) else if b.role=2\/b.role=3 then (bP,12) else if b.role≠1 then (bP,7)
 else if b.ep=1048576 then (bP,14) else (⟨2,b.ep,0,tg,0,b.evs⟩,0)
noncomputable def bY (b:bJ) (hv:Int):bJ×Int:=
 if au b≠0 then (bP,au b) else if b.role≠2/\b.role≠3 then (bP,7) else if ¬ (0<=hv/\hv<=b.evs.length) then (bP,2)
 else if b.role=3 then (b,0) else if hv=b.evs.length\/b.rd=4 then ({ b with role:=3,rd:=0 },0) else ({ b with rd:=b.rd+1 },0)
noncomputable def iO (b:bJ) (hv:Int):List Ev×Bool×Int:=
 if au b≠0 then ([],false,au b) else if b.role≠2/\b.role≠3 then ([],false,7) else if ¬ (0<=hv/\hv<=b.evs.length) then ([],false,2)
 else ((b.evs.drop hv.toNat).take 3,decide (b.role=3/\b.evs.length<=hv.toNat+3),0)
noncomputable def dN (b:bJ) (ep fr:Int):bJ×Int:=
 if au b≠0 then (bP,au b) else if ¬ (1<=ep/\ep<=1048576/\0<=fr/\fr<=4) then (bP,2) else if b.role≠0/\b.role≠4 then (bP,8)
 else if b.role=4/\b.ep=ep/\b.fr=fr then (b,0) else if ep<=b.ep then (bP,15) else (⟨4,ep,fr,0,0,[]⟩,0)
noncomputable def dJ (b:bJ) (ep at_:Int) (l:List Ev) (last:Bool):bJ×Int:=
 if au b≠0 then (bP,au b) else if b.role≠4 then (bP,7) else if b.ep≠ep then (bP,15) else if ¬ (0<=at_/\at_<=b.evs.length) then (bP,2)
 else if ¬ (b.evs.drop at_.toNat).take l.length=l.take (b.evs.length-at_.toNat) then (bP,3)
 else if last=true/\at_.toNat+l.length<b.evs.length then (bP,3)
 else if au (if last=true then ⟨1,ep,0,0,0,b.evs++l.drop (b.evs.length-at_.toNat)++[aS]⟩ else { b with evs:=b.evs++l.drop (b.evs.length-at_.toNat) })≠0 then (bP,3)
 else (if last=true then ⟨1,ep,0,0,0,b.evs++l.drop (b.evs.length-at_.toNat)++[aS]⟩ else { b with evs:=b.evs++l.drop (b.evs.length-at_.toNat) },0)
noncomputable def gL (b:bJ) (ep:Int):bJ×Int:=
 if au b≠0 then (bP,au b) else if b.role≠3 then (bP,7) else if ep<=b.ep then (bP,15) else (⟨0,b.ep,0,0,0,[]⟩,0)
noncomputable def fB (b:bJ):bJ×Int:=
 if au b≠0 then (bP,au b) else if b.role≠1/\b.role≠2 then (b,0)
 else if au ⟨1,b.ep,0,0,0,b.evs++[aS]⟩≠0 then (bP,14) else (⟨1,b.ep,0,0,0,b.evs++[aS]⟩,0)
theorem lq {α:Type} {a b:α} (h:a=b:=by (repeat' (first | rfl | omega | split))<;>(simp only [Prod.mk.injEq,bJ.mk.injEq,and_true,true_and,and_self];omega)):a=b:=h
end
section
abbrev bR (b:bJ) (A:Option Addr) (c:Nat):Array Value:= #[iV b.role,iV b.ep,iV b.fr,iV b.tg,iV b.rd,.slice A b.evs.length c]
abbrev zB:Array Value:= #[iV 0,iV 0,iV 0,iV 0,iV 0,.slice none 0 0]
abbrev rR (k q e p:Int) (x:Ev):Array Value:= #[iV k,iV q,iV e,iV p,iV x.kind,iV x.producer,iV x.id,iV x.body,iV x.aG,iV x.hno]
end
section
open ChangeShapes WideShapes RowKit
theorem ab4 {B g k c1 c2:Nat} {w0 w:World} {fs:List Fact} {A1 A2:Option Addr} {rs:List fD} {ls:List Ls} {W:kK} {ep nx gv kd id bd he hn:Int} (S:St B w0 w (.blk g (bO ep nx gv (.slice A1 rs.length c1) (.slice A2 ls.length c2) W) 91:: .own 62 2 (.slice A1 rs.length c1) rs.length ((rs).flatMap fD.cells):: .own 64 4 (.slice A2 ls.length c2) ls.length ((ls).flatMap Ls.cells)::fs)) (hk:k<4) (hlen:rs.length+ls.length<=500) (hnx:0<=nx/\nx<=1073741824) (hgv:0<=gv/\gv<=1073741824) (dK:0<=ep/\ep<=1048576) (hA:sJ rs) (hN:(jE rs ls).Nodup):
    Calls Tryz.prog 31 #[pV g 0,.agg #[iV kd,iV ((k:Nat):Int),iV id,iV bd,iV he,iV hn]] w (Fe B w0 g fs (Dn ⟨ep,nx,gv,rs,ls,W⟩)):=by
 refine gq 63 Tryz.func31 ?_;refine cw [0,1] ?_;refine zN 2 ?_;refine iP S ?_;intro b1 w2 S3;refine fJ S3 oK ?_;intro b4 w5 S6;refine zN 10 ?_;refine vv (aj rfl rfl (av Tryz.underlying3 rfl (St.cl 2 S6 rfl yL))) ?_;by_cases h1:ep=1048576
 ·refine zN 6 ?_;refine vv (v:= .agg #[iV 14,iV 0,iV 0,iV 0]) gF ?_;refine sa 0 S6 dh ?_;intro w7 S8;refine zN 6 ?_;have S9:=S8.aU [1,0];have qJ:=S9.bK 1 rfl;have tu:=qJ.bK 2 rfl;rw [agJ h1];refine ⟨rfl,A1,c1,A2,c2,?_⟩;dsimp only;exact tu
 refine zN 13 ?_;refine vv (aj rfl rfl (av Tryz.underlying40 rfl (St.cl 2 S6 rfl ko))) ?_;refine zN 5 ?_;refine cZ (X:=Nat×(Option Addr)×Nat) (λxv=>[(0,pV g 0),(4,pV b4 0),(5,.bool false),(19,.slice A2 ls.length c2),(20,iV ((ls.length:Nat):Int)),(21,iV ((xv.1:Nat):Int))]) (λxv wr=>(xv.1<=ls.length)/\St B w0 wr ((.blk b4 #[iV 0,iV 0,iV 0,iV 0] 58)::(.blk b1 #[iV kd,iV ((k:Nat):Int),iV id,iV bd,iV he,iV hn] 55)::(.blk g (bO ep nx gv (.slice xv.2.1 (rs.length+xv.1) xv.2.2) (.slice A2 ls.length c2) W) 91)::(.own 62 2 (.slice xv.2.1 (rs.length+xv.1) xv.2.2) (rs.length+xv.1) ((rs++(ls.take xv.1).map (·.msg)).flatMap fD.cells))::(.own 64 4 (.slice A2 ls.length c2) ls.length ((ls).flatMap Ls.cells))::fs)) (λxv=>ls.length-xv.1) (0,A1,c1) ?_ ?_ ?_
 ·exact ⟨Nat.zero_le _,by dsimp only;rw [show rs++(ls.take 0).map (·.msg)=rs by simp];exact S6⟩
 ·exact ⟨rfl,rfl,rfl,rfl,rfl,rfl,trivial⟩
 rintro ⟨q,Ab,cb⟩ w12 ⟨Nb,yu⟩
 try dsimp only at Nb yu
 refine bq (l':=[(0,pV g 0),(4,pV b4 0),(5,.bool false),(19,.slice A2 ls.length c2),(20,iV ((ls.length:Nat):Int)),(21,iV ((q:Nat):Int))]) ⟨rfl,rfl,rfl,rfl,rfl,rfl,trivial⟩ (aH (aC ?_));by_cases h15:((q:Nat):Int)< ((ls.length:Nat):Int)
 ·refine zN 11 ?_;obtain ⟨b16,o17,rfl⟩:=Rd.addr (St.ord 4 yu rfl) (by omega);obtain ⟨x18,Fq⟩:=zL q (St.ord 4 yu rfl) (by omega);refine vv (jI q) ?_;refine vv (aj rfl rfl (aA (cs:=Ls.cells x18) Tryz.underlying64 rfl JA rfl (Rd.uW (St.ord 4 yu rfl) (λ_ _ h=>aX (enc:=Ls.cells) (sz:=4) (λ_=>rfl) Fq h)))) ?_;refine fJ yu asS ?_;intro b20 Gl iY;refine sa 0 iY JA ?_;intro Mw jS;refine zN 2 ?_;have jB:=jS.drew;refine fH 14 10 jB [4] ?_;iterate 5 refine gW ?_
  refine gk (v:= .slice Ab (rs.length+q) cb) 5 rfl (St.del 4 jB) (λ_ ab5=>(aj rfl rfl (av Tryz.underlying39 rfl (St.cl 3 ab5 rfl qm)))) ?_;refine gW ?_;refine gk (v:= .agg #[iV x18.msg.no,iV x18.msg.body]) 7 rfl (St.del 4 jB) (λ_ an8=>(aj rfl rfl (aA (cs:=[iV x18.msg.no,iV x18.msg.body]) Tryz.underlying62 rfl Gb rfl (St.rg 0 an8 rfl (kW (x:=2) (m:=2) rfl))))) ?_;refine fq (m:=5) (r:=8) (by kernel_rfl) ?_;refine mF (i:=8) rfl rfl (V:=λb=> .slice (aD b 0) 1 1) (row:= #[iV x18.msg.no,iV x18.msg.body]) (t:=62) jB (wn rfl) rfl rfl (bg (vs:=[(0,.agg #[iV x18.msg.no,iV x18.msg.body])]) rfl ⟨rfl,rfl,trivial⟩ (by kernel_rfl)) ?_;intro b34 w35 nW;refine gW ?_;refine fq (m:=4) (r:=9) (by kernel_rfl) ?_;refine lG (i:=9) rfl rfl (news:=[iV x18.msg.no,iV x18.msg.body]) (xs':=(rs++(ls.take (q+1)).map (·.msg)).flatMap fD.cells) 5 nW (wn rfl) rfl rfl rfl rfl rfl rfl (St.lM (xs:=[iV x18.msg.no,iV x18.msg.body]) 0 nW rfl rfl rfl) Tryz.underlying39 WX rfl (by decide) (bX rfl) (by simp only [maxLen];omega) (by omega) (iJ (enc:=fD.cells) (by rw [List.append_assoc,Lf (f:=λx:Ls=>x.msg) Fq]) rfl) ?_;intro A37 c38 w39 aKu aKv uD;refine gW ?_;refine eP (by kernel_rfl) rfl rfl rfl ?_;refine zN 3 ?_;refine jL 4 uD Sg ?_ (hs:=by exact JR);intro w43 DV;refine zQ ?_;refine jk ?_;refine zN 3 ?_;refine vv (v:=iV ((q+1:Nat):Int)) gu ?_;refine zN 2 ?_;have ou:=DV.aU [1,0];refine aM (q+1,A37,c38) ?_ ⟨rfl,rfl,rfl,rfl,rfl,rfl,trivial⟩ (by first | omega | (dsimp only;omega));exact ⟨(by dsimp only;omega),ou⟩
 refine zN 12 ?_;obtain rfl:q=ls.length:=by omega
 have qW:=yu;rw [List.take_length] at qW;refine zN 4 ?_;refine vv (aj rfl rfl (av Tryz.underlying39 rfl (St.cl 2 qW rfl qm))) ?_;have hml:(rs++ls.map (·.msg)).length=rs.length+ls.length:=by simp
 have HS:=λA c w (ho:World.ownsRow w B 62 2 (.slice A (rs++ls.map (·.msg)).length c) (rs++ls.map (·.msg)).length ((rs++ls.map (·.msg)).flatMap fD.cells))=>V9 A c (rs++ls.map (·.msg)) w ho (by omega);rw [hml] at HS;refine dz aAl (HS Ab cb _ (qW.own 3 rfl)) ?_;rintro _ w47 ⟨rfl,d49,as9,aBg,ata,atb⟩;refine ⟨_,rfl,?_⟩;have rJ:=qW.append 3 rfl atb ata (.inl rfl);have hdl:=agR as9 aBg hA hN;clear HS ata atb qW;refine zN 8 ?_;refine jL 2 rJ Si ?_ (hs:=by exact JU);intro w54 u6;refine zN 8 ?_;refine vv (aj rfl rfl (av Tryz.underlying3 rfl (St.cl 2 u6 rfl yL))) ?_;refine vv (v:=iV (ep+1)) gu ?_;refine zN 3 ?_;refine jL 2 u6 nM ?_ (hs:=by exact ak1);intro w56 rP;refine zN 8 ?_;refine jL 2 rP nM ?_ (hs:=by exact aay);intro w58 yB;refine zN 5 ?_;refine sa 0 yB dh ?_;intro w60 Gn;refine zN 5 ?_;have H7:=Gn.aU [1,0];have wJ:=H7.bK 1 rfl;have S64:=wJ.seal 2 rfl Rd.none_ (λ(a:Addr) (h:(none:Option Addr)=some a)=>by cases h);have hln:d49.length=rs.length+ls.length:=by rw [as9.length_eq,hml]
 rw [aq6 h1,<-hdl];refine ⟨rfl,Ab,cb,none,0,?_⟩;dsimp only;rw [hln];exact S64
theorem Rt {t z:Int} {f:Nat->Bool}: ∀ {k:Nat},z∈jK t f k-> ∃ j,j<k/\f j=true/\z=t-8+j
 | 0,h=>by simp [jK] at h
 | k+1,h=>by
  unfold jK at h
  split at h
  ·rename_i hf
   rcases List.mem_append.1 h with h | h
   ·obtain ⟨j,h1,h2⟩:=Rt h;exact ⟨j,by omega,h2⟩
   rw [List.mem_singleton] at h;exact ⟨k,by omega,hf,h⟩
  obtain ⟨j,h1,h2⟩:=Rt h;exact ⟨j,by omega,h2⟩
theorem agT {t:Int} {bs:List Bool} {i:Nat} (hi:i<8):(aeg t bs).at i=bs.getD i false:=by
 have h:i=0\/i=1\/i=2\/i=3\/i=4\/i=5\/i=6\/i=7:=by omega
 rcases h with rfl | rfl | rfl | rfl | rfl | rfl | rfl | rfl<;>rfl
theorem arn {x:lu} {id:Int} (h:(qF x id).2=0):dP (Dj x id)=0:=by
 obtain ⟨h1,h2,h3⟩:=G8 h;have h0:=tT h1;have aBh:=RY h1;have hx:F3 x.top x.at=true:=by
  unfold dP at h1
  split at h1
  ·rename_i hh
   simp only [Bool.and_eq_true] at hh;exact hh.1.2
  cases h1
 have ht:(Dj x id).top=max x.top (id+1):=rfl;have hat: ∀ i,i<8->(Dj x id).at i=decide (max x.top (id+1)-8+i∈jK x.top x.at 8++[id]):=λi hi=>by
  unfold Dj;rw [agT hi,YS _ _ _ hi]
 unfold dP;refine if_pos ?_;have hw:F3 (Dj x id).top (Dj x id).at=true:=sD.2 λk hk hb=>by
  rw [hat k hk,decide_eq_true_eq] at hb;rw [ht]
  rcases List.mem_append.1 hb with hb | hb
  ·obtain ⟨j,j1,j2,j3⟩:=Rt hb;have:=sD.1 hx j j1 j2;omega
  rw [List.mem_singleton] at hb;omega
 have h7:(Dj x id).b7=true:=by
  show (Dj x id).at 7=true
  rw [hat 7 (by omega),decide_eq_true_eq];by_cases c:x.top<=id
  ·rw [show max x.top (id+1)=id+1 by omega];exact List.mem_append_right _ (by rw [List.mem_singleton];omega)
  rw [show max x.top (id+1)=x.top by omega];refine List.mem_append_left _ ?_
  rcases aBh with ⟨h4,_⟩ | ⟨_,h5,h6⟩
  ·omega
  have:=List.getLast_mem h5;rw [List.getLastD_eq_getLast?,List.getLast?_eq_some_getLast h5,Option.getD_some] at h6;rw [h6] at this;rwa [show x.top-8+((7:Nat):Int)=x.top-1 by omega]
 rw [hw,h7,ht];simp only [Bool.and_true,Bool.or_true,Bool.and_eq_true,decide_eq_true_eq];omega
theorem alm {x:lu} {id:Int} (h:(ji x id).2.2=0) (h1:(ji x id).2.1=true):dP (ji x id).1=0:=by
 unfold ji at h h1⊢;by_cases c1:(qF x id).2≠0
 ·rw [if_pos c1] at h;exact absurd h c1
 rw [if_neg c1] at h h1⊢;by_cases c2:(qF x id).1=true
 ·rw [if_pos c2] at h1;cases h1
 rw [if_neg c2];exact arn (Classical.not_not.1 c1)
section
variable {ep nx gv p:Int} {rs:List fD} {ls:List Ls} {W:kK}
theorem Ez: ∀ {rs:List fD} {p:Int},kr nx p rs=true↔(∀ x∈rs,qI nx x=true/\p<x.no)/\rs.Pairwise λa b=>a.no<b.no
 | [],p=>by simp [kr]
 | m::r,p=>by
  simp only [kr,Bool.and_eq_true,decide_eq_true_eq,Ez (rs:=r),List.pairwise_cons,List.mem_cons,forall_eq_or_imp]
  constructor
  ·rintro ⟨⟨h1,h2⟩,h3,h4⟩;exact ⟨⟨⟨h1,h2⟩,λx hx=>⟨(h3 x hx).1,Int.lt_trans h2 (h3 x hx).2⟩⟩,λx hx=>(h3 x hx).2,h4⟩
  rintro ⟨⟨⟨h1,h2⟩,h3⟩,h4,h5⟩;exact ⟨⟨h1,h2⟩,λx hx=>⟨(h3 x hx).1,h4 x hx⟩,h5⟩
theorem KH: ∀ {ls:List Ls} {p:Int},kR ep nx gv p ls=true↔(∀ x∈ls,qI nx x.msg=true/\x.dK=ep/\p<x.hno/\x.hno<gv)/\ls.Pairwise λa b=>a.hno<b.hno
 | [],p=>by simp [kR]
 | m::r,p=>by
  simp only [kR,JW,Bool.and_eq_true,decide_eq_true_eq,KH (ls:=r),List.pairwise_cons,List.mem_cons,forall_eq_or_imp]
  constructor
  ·rintro ⟨⟨h1,h2,h2',aoh⟩,h3,h4⟩;exact ⟨⟨⟨h1,h2,h2',aoh⟩,λx hx=>⟨(h3 x hx).1,(h3 x hx).2.1,Int.lt_trans h2' (h3 x hx).2.2.1,(h3 x hx).2.2.2⟩⟩,λx hx=>(h3 x hx).2.2.1,h4⟩
  rintro ⟨⟨⟨h1,h2,h2',aoh⟩,h3⟩,h4,h5⟩;exact ⟨⟨h1,h2,h2',aoh⟩,λx hx=>⟨(h3 x hx).1,(h3 x hx).2.1,h4 x hx,(h3 x hx).2.2.2⟩,h5⟩
theorem UC {nx':Int} {m:fD} (h:qI nx m=true) (hn:nx<=nx'):qI nx' m=true:=by
 have:=xS h;exact decide_eq_true (by omega)
theorem SA (h:TG ep nx gv rs ls) (h1:Ag W) (h2:kr nx (-1) rs=true) (h3:kR ep nx gv (-1) ls=true) (h4:(jE rs ls).Nodup):gy ep nx gv rs ls W=0:=by
 unfold gy;rw [if_neg (λe=>e h),if_neg (λe=>e h1),if_pos ⟨h2,h3,h4⟩]
theorem agU {k:Nat} {y:lu} (h:Ag W) (hy:dP y=0) (hk:k<4):Ag (W.put k y):=λj hj=>by
 have h0:=h 0 (by omega);have h1:=h 1 (by omega);have h2:=h 2 (by omega);have h3:=h 3 (by omega);have hk':k=0\/k=1\/k=2\/k=3:=by omega
 have hj':j=0\/j=1\/j=2\/j=3:=by omega
 rcases hk' with rfl | rfl | rfl | rfl<;>rcases hj' with rfl | rfl | rfl | rfl<;>first | exact hy | exact h0 | exact h1 | exact h2 | exact h3
theorem Lh {m:fD}: ∀ {l:List fD},(ku m l).Perm (m::l)
 | []=> .refl _
 | x::l=>by
  unfold ku
  split
  ·exact .refl _
  exact ((Lh (l:=l)).cons x).trans (.swap m x l)
theorem aaL {m:fD}: ∀ {l:List fD},sJ l->sJ (ku m l)
 | [],_=>List.pairwise_singleton _ _
 | x::l,h=>by
  obtain ⟨h1,h2⟩:=List.pairwise_cons.1 h;unfold ku
  split
  ·rename_i hm
   refine List.pairwise_cons.2 ⟨λy hy=>?_,h⟩
   rcases List.mem_cons.1 hy with rfl | hy
   ·omega
   have:=h1 y hy;omega
  rename_i hm
  refine List.pairwise_cons.2 ⟨λy hy=>?_,aaL h2⟩
  rcases List.mem_cons.1 (Lh.mem_iff.1 hy) with rfl | hy
  ·omega
  exact h1 y hy
theorem Qj: ∀ (ls:List Ls) (rs:List fD),(ls.foldl (λl x=>ku x.msg l) rs).Perm (rs++ls.map (·.msg))
 | [],rs=>by simp
 | x::ls,rs=>by
  refine (Qj ls (ku x.msg rs)).trans ?_;refine (Lh.append_right _).trans ?_;rw [List.map_cons];exact (List.perm_middle).symm
theorem UD: ∀ (ls:List Ls) (rs:List fD),sJ rs->sJ (ls.foldl (λl x=>ku x.msg l) rs)
 | [],rs,h=>h
 | x::ls,rs,h=>UD ls _ (aaL h)
theorem Zi {l:List fD} (h:sJ l) (hn:(l.map (·.no)).Nodup):l.Pairwise λa b=>a.no<b.no:=by
 have h2:l.Pairwise λa b=>a.no≠b.no:=List.pairwise_map.1 hn;exact (h.and h2).imp λh=>by omega
end
theorem agV {Q:Qd} {e:Ev} (h:Q.fault=0) (he:bE e=0):(stepM Q e).1.fault=0:=by
 obtain ⟨hr,hw,h2,h3,h4⟩:=Ey h;have hp:=aaJ he;obtain ⟨ep,nx,gv,rs,ls,W⟩:=Q;dsimp only at hr hw h2 h3 h4;obtain ⟨r1,r2,r3,r4,r5,r6,r7⟩:=hr;obtain ⟨a1,a2⟩:=Ez.1 h2;obtain ⟨b1,b2⟩:=KH.1 h3;unfold stepM
 split
 ·unfold yt
  split
  ·exact h
  split
  ·exact h
  split
  ·exact h
  rename_i k1 k2 k3 k4
  dsimp only at k2 k3 k4⊢;have hlt: ∀ z∈jE rs ls,z<nx:=λz hz=>by
   unfold jE at hz
   rcases List.mem_append.1 hz with hz | hz
   ·obtain ⟨x,hx,rfl⟩:=List.mem_map.1 hz;exact (xS (a1 x hx).1).2.1
   obtain ⟨x,hx,rfl⟩:=List.mem_map.1 hz;exact (xS (b1 x hx).1).2.1
  have hbd:0<=e.body/\e.body<=1000000:=by
   unfold bE at he
   repeat' split at he
   all_goals first
    | (cases he;done)
    | (simp only [kI,Bool.and_eq_true,decide_eq_true_eq,not_and,Classical.not_not] at*;omega)
  show gy ep (nx+1) gv (rs++[⟨nx,e.body⟩]) ls (W.put e.producer.toNat (ji (W.at e.producer.toNat) e.id).1)=0
  refine SA ⟨r1,r2,by omega,by omega,r5,r6,by rw [List.length_append,List.length_singleton];omega⟩ (agU hw (alm (Classical.not_not.1 k2) (by simpa using k3)) (by omega)) (Ez.2 ⟨λx hx=>?_,?_⟩) (KH.2 ⟨λx hx=>⟨UC (b1 x hx).1 (by omega),(b1 x hx).2⟩,b2⟩) ?_
  ·rcases List.mem_append.1 hx with hx | hx
   ·exact ⟨UC (a1 x hx).1 (by omega),(a1 x hx).2⟩
   rw [List.mem_singleton] at hx;subst hx;exact ⟨decide_eq_true (by dsimp only;omega),by dsimp only;omega⟩
  ·refine List.pairwise_append.2 ⟨a2,List.pairwise_singleton _ _,λx hx y hy=>?_⟩;rw [List.mem_singleton] at hy;subst hy;exact hlt _ (List.mem_append_left _ (List.mem_map_of_mem hx))
  have:(jE (rs++[⟨nx,e.body⟩]) ls).Perm (nx::jE rs ls):=by
   unfold jE;rw [List.map_append,List.append_assoc];exact List.perm_middle
  exact this.nodup_iff.2 (List.nodup_cons.2 ⟨λhm=>by have:=hlt _ hm;omega,h4⟩)
 split
 ·unfold pz;dsimp only
  split
  ·exact h
  rename_i m rest
  split
  ·exact h
  rename_i k1
  obtain ⟨a3,a4⟩:=List.pairwise_cons.1 a2;have hm:=a1 m (by simp)
  show gy ep nx (gv+1) rest (ls++[⟨ep,gv,m⟩]) W=0
  refine SA ⟨r1,r2,r3,r4,by omega,by omega,by rw [List.length_append,List.length_singleton];rw [List.length_cons] at r7;omega⟩ hw (Ez.2 ⟨λx hx=>a1 x (by simp [hx]),a4⟩) (KH.2 ⟨λx hx=>?_,?_⟩) ?_
  ·rcases List.mem_append.1 hx with hx | hx
   ·have:=b1 x hx;exact ⟨this.1,this.2.1,this.2.2.1,by omega⟩
   rw [List.mem_singleton] at hx;subst hx;exact ⟨hm.1,rfl,by dsimp only;omega,by dsimp only;omega⟩
  ·refine List.pairwise_append.2 ⟨b2,List.pairwise_singleton _ _,λx hx y hy=>?_⟩;rw [List.mem_singleton] at hy;subst hy;exact (b1 x hx).2.2.2
  refine (List.Perm.nodup_iff ?_).1 h4;unfold jE;rw [List.map_cons,List.map_append,List.cons_append,<-List.append_assoc];exact (List.perm_append_comm (l₁:=[m.no]) (l₂:=rest.map (·.no)++ls.map (·.msg.no)))
 split
 ·unfold za;dsimp only
  split
  ·exact h
  split
  ·exact h
  have hsub:(ls.filter λx=>decide (x.hno≠e.hno)).Sublist ls:=List.filter_sublist
  show gy ep nx gv rs (ls.filter λx=>decide (x.hno≠e.hno)) W=0
  refine SA ⟨r1,r2,r3,r4,r5,r6,by have:=hsub.length_le;omega⟩ hw h2 (KH.2 ⟨λx hx=>b1 x (hsub.subset hx),b2.sublist hsub⟩) ?_;unfold jE at h4⊢;exact h4.sublist ((List.Sublist.refl _).append (hsub.map _))
 unfold Dn;dsimp only
 split
 ·exact h
 have hP:=Qj ls rs;have hlen:=hP.length_eq;rw [List.length_append,List.length_map] at hlen;have hnn:((ls.foldl (λl x=>ku x.msg l) rs).map (·.no)).Nodup:=by
  refine ((hP.map (·.no)).nodup_iff).2 ?_;unfold jE at h4;rw [List.map_append,List.map_map];exact h4
 show gy (ep+1) nx 0 (ls.foldl (λl x=>ku x.msg l) rs) [] W=0
 refine SA ⟨by omega,by omega,r3,r4,by omega,by omega,by rw [List.length_nil];omega⟩ hw (Ez.2 ⟨λx hx=>?_,Zi (UD ls rs (a2.imp λh=>Int.le_of_lt h)) hnn⟩) rfl ?_
 ·rcases List.mem_append.1 (hP.mem_iff.1 hx) with hx | hx
  ·exact a1 x hx
  obtain ⟨y,hy,rfl⟩:=List.mem_map.1 hx;have:=(b1 y hy).1;exact ⟨this,by have:=xS this;omega⟩
 unfold jE;rw [List.map_nil,List.append_nil];exact hnn
theorem aro {Q:Qd} {e:Ev} (h:(gU Q e).2.2.2=0):(gU Q e).1.fault=0:=by
 by_cases c1:Q.fault=0
 ·by_cases c2:bE e=0
  ·rw [BD c1 c2];exact agV c1 c2
  rw [Sz c1 c2] at h;exact absurd h c2
 rw [Ob c1] at h;exact absurd h c1
theorem ab8:bT.fault=0:=by
 refine SA ⟨by decide,by decide,by decide,by decide,by decide,by decide,by decide⟩ (λj hj=>?_) rfl rfl List.nodup_nil;have hj':j=0\/j=1\/j=2\/j=3:=by omega
 rcases hj' with rfl | rfl | rfl | rfl<;>decide
end
end Go.Proofs.YtnhimdkpkmbhlaaGreatDoor
