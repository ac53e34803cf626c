import Derived.Shelf.SlicesG.Cmp
import Derived.Shelf.SlGeneric
import Derived.Ground.SlsfProg
import Derived.Ground.SlgcProg
import Derived.Test.YtnhimdkpkmbhlaaGreatDoorG968ce
import Derived.Test.YtnhimdkpkmbhlaaGreatDoorGc19c7
import Derived.Test.YtnhimdkpkmbhlaaGreatDoorGcc137
set_option maxRecDepth 100000
set_option maxHeartbeats 8000000
set_option linter.unusedSimpArgs false
set_option linter.unusedVariables false
namespace Go.Proofs.YtnhimdkpkmbhlaaGreatDoor
section
section
open Go.Shelf Go.RowKit Go.Lib Go.Sort
def Q6:Go.Shelf.Ren:=⟨λ| 6=>46 | 15=>66 | 14=>65 | 28=>95 | 29=>96 | 20=>87 | 21=>88 | 22=>89 | 23=>90 | 24=>91 | 25=>92 | 26=>93 | 27=>94 | 46=>116 | 47=>117 | 48=>118 | 49=>119 | 50=>120 | 57=>150 | n=>n,λ| 22=>39 | 24=>62 | 25=>134 | 3=>3 | 39=>163 | 0=>0 | 53=>198 | 55=>200 | 4=>4 | 46=>191 | 45=>190 | 50=>195 | 5=>5 | 9=>9 | 66=>215 | 70=>139 | 76=>243 | 77=>244 | n=>n,λ| n=>n⟩
theorem WA:Go.Proofs.SlLaysF0.n6 Tryz.prog Q6:={
 mixed:=by kernel_rfl
 f6:=⟨Tryz.f46.name,by decide,Tryz.func46.trans (congrArg some (by kernel_rfl))⟩
 f14:=⟨Tryz.f65.name,by decide,Tryz.func65.trans (congrArg some (by kernel_rfl))⟩
 f15:=Tryz.func66.trans (congrArg some (by kernel_rfl))
 f20:=⟨Tryz.f87.name,by decide,Tryz.func87.trans (congrArg some (by kernel_rfl))⟩
 f21:=⟨Tryz.f88.name,by decide,Tryz.func88.trans (congrArg some (by kernel_rfl))⟩
 f22:=⟨Tryz.f89.name,by decide,Tryz.func89.trans (congrArg some (by kernel_rfl))⟩
 f23:=⟨Tryz.f90.name,by decide,Tryz.func90.trans (congrArg some (by kernel_rfl))⟩
 f24:=⟨Tryz.f91.name,by decide,Tryz.func91.trans (congrArg some (by kernel_rfl))⟩
 f25:=⟨Tryz.f92.name,by decide,Tryz.func92.trans (congrArg some (by kernel_rfl))⟩
 f26:=⟨Tryz.f93.name,by decide,Tryz.func93.trans (congrArg some (by kernel_rfl))⟩
 f27:=⟨Tryz.f94.name,by decide,Tryz.func94.trans (congrArg some (by kernel_rfl))⟩
 f28:=Tryz.func95.trans (congrArg some (by kernel_rfl))
 f29:=Tryz.func96.trans (congrArg some (by kernel_rfl))
 f46:=⟨Tryz.f116.name,by decide,Tryz.func116.trans (congrArg some (by kernel_rfl))⟩
 f47:=Tryz.func117.trans (congrArg some (by kernel_rfl))
 f48:=Tryz.func118.trans (congrArg some (by kernel_rfl))
 f49:=⟨Tryz.f119.name,by decide,Tryz.func119.trans (congrArg some (by kernel_rfl))⟩
 f50:=⟨Tryz.f120.name,by decide,Tryz.func120.trans (congrArg some (by kernel_rfl))⟩
 f57:=⟨Tryz.f150.name,by decide,Tryz.func150.trans (congrArg some (by kernel_rfl))⟩
 t0:=Tryz.underlying0
 a0:=Tryz.isAgg0
 z0:=Tryz.sizeOf0
 v0:=Tryz.zeroValue0
 t3:=Tryz.underlying3
 a3:=Tryz.isAgg3
 z3:=Tryz.sizeOf3
 v3:=Tryz.zeroValue3
 t4:=Tryz.underlying4
 a4:=Tryz.isAgg4
 z4:=Tryz.sizeOf4
 v4:=Tryz.zeroValue4
 t5:=Tryz.underlying5
 a5:=Tryz.isAgg5
 z5:=Tryz.sizeOf5
 v5:=Tryz.zeroValue5
 t9:=Tryz.underlying9
 a9:=Tryz.isAgg9
 z9:=Tryz.sizeOf9
 v9:=Tryz.zeroValue9
 t22:=Tryz.underlying39
 a22:=Tryz.isAgg39
 z22:=Tryz.sizeOf39
 v22:=Tryz.zeroValue39
 t25:=Tryz.underlying134
 a25:=Tryz.isAgg134
 z25:=Tryz.sizeOf134
 v25:=Tryz.zeroValue134
 t39:=Tryz.underlying163
 a39:=Tryz.isAgg163
 z39:=Tryz.sizeOf163
 v39:=Tryz.zeroValue163
 t45:=Tryz.underlying190
 a45:=Tryz.isAgg190
 z45:=Tryz.sizeOf190
 v45:=Tryz.zeroValue190
 t46:=Tryz.underlying191
 a46:=Tryz.isAgg191
 z46:=Tryz.sizeOf191
 v46:=Tryz.zeroValue191
 t50:=Tryz.underlying195
 a50:=Tryz.isAgg195
 z50:=Tryz.sizeOf195
 v50:=Tryz.zeroValue195
 t53:=Tryz.underlying198
 a53:=Tryz.isAgg198
 z53:=Tryz.sizeOf198
 v53:=Tryz.zeroValue198
 t55:=Tryz.underlying200
 a55:=Tryz.isAgg200
 z55:=Tryz.sizeOf200
 v55:=Tryz.zeroValue200
 t66:=Tryz.underlying215
 a66:=Tryz.isAgg215
 z66:=Tryz.sizeOf215
 v66:=Tryz.zeroValue215
 t70:=Tryz.underlying139
 a70:=Tryz.isAgg139
 z70:=Tryz.sizeOf139
 v70:=Tryz.zeroValue139
 t76:=Tryz.underlying243
 a76:=Tryz.isAgg243
 z76:=Tryz.sizeOf243
 v76:=Tryz.zeroValue243
 t77:=Tryz.underlying244
 a77:=Tryz.isAgg244
 z77:=Tryz.sizeOf244
 v77:=Tryz.zeroValue244 }
def UR:Go.Shelf.Ren:=⟨λ| 5=>67 | 7=>97 | n=>n,λ| 22=>3 | 3=>3 | 4=>4 | n=>n,λ| n=>n⟩
theorem amI:Go.Proofs.SlLaysC2.n5 Tryz.prog UR:={
 mixed:=by kernel_rfl
 f5:=⟨Tryz.f67.name,by decide,Tryz.func67.trans (congrArg some (by kernel_rfl))⟩
 f7:=⟨Tryz.f97.name,by decide,Tryz.func97.trans (congrArg some (by kernel_rfl))⟩
 t3:=Tryz.underlying3
 a3:=Tryz.isAgg3
 z3:=Tryz.sizeOf3
 v3:=Tryz.zeroValue3
 t4:=Tryz.underlying4
 a4:=Tryz.isAgg4
 z4:=Tryz.sizeOf4
 v4:=Tryz.zeroValue4
 t22:=Tryz.underlying3
 a22:=Tryz.isAgg3
 z22:=Tryz.sizeOf3
 v22:=Tryz.zeroValue3 }
end
open Go.Shelf
open ChangeShapes WideShapes ChangeAt RowKit
open Go.Sort (HoldsK PermIn SortedIn SWO grow)
instance:Inhabited gM:=⟨⟨0,0⟩⟩
def Kn (x y:gM):Int:=Lib.compareInt x.no y.no
theorem aeg (x y:gM):ltOf Kn x y=decide (x.no<y.no):=by
 unfold ltOf Kn Lib.compareInt;by_cases h1:x.no<y.no
 ·simp [h1]
 by_cases h2:y.no<x.no<;>simp [h1,h2]
theorem asr:SWO (ltOf Kn) where
 irrefl x:=by rw [aeg];simp
 trans x y z h1 h2:=by rw [aeg] at*;simp at*;omega
 ntrans x y z h1 h2:=by rw [aeg] at*;simp at*;omega
theorem UU (x y:gM) (W:World):Calls Tryz.prog 47 #[.agg #[.int .i64 x.no,.int .i64 x.body],.agg #[.int .i64 y.no,.int .i64 y.body]] W λe w'=>e= .returned (.int .i64 (Kn x y))/\ ∃ q os',w'=grow (W.drewN q) os':=by
 have hcon:=λW'=>AnyG.cmp_Compare_int amI x.no y.no W';change ∀ W',Calls Tryz.prog 67 _ _ _ at hcon;unfold Kn;generalize Lib.compareInt x.no y.no=r at hcon⊢
 go_enter Tryz.func47,Tryz.ntmps47
 go_wp2_with (go_at_call 67;refine (hcon _).mono ?_;rintro e w' ⟨rfl,rfl⟩)
 go_ret
 exact ⟨rfl,0,_,by rw [Go.Sort.alloc_eq_grow,Go.Sort.alloc_eq_grow,Go.Sort.grow_grow];rfl⟩
theorem amJ: ∀ w,(isAgg 62).run Tryz.prog w= .ok true w:=by
 intro w;simp [isAgg,run_underlying Tryz.underlying62,Sem.run_bind,Result.andThen]
theorem agV: ∀ w,(Go.sizeOf 62).run Tryz.prog w= .ok 2 w:=by
 intro w;obtain ⟨z,hq,hs⟩: ∃ z,Tryz.prog.info? 62=some z/\z.size=2:=by
  have h:=DI
  cases hi:Tryz.prog.info? 62 with
  | none=>simp [hi] at h
  | some z=>exact ⟨z,rfl,by simpa [hi] using h⟩
 simp [sizeOf,typeInfo,hq,hs,Sem.run_bind,Result.andThen]
def xZ (l:List gM):Prop:=l.Pairwise λa b=>a.no<=b.no
theorem Q7 (A:Option Addr) (c:Nat) (rs:List gM) (w:World) {B:Nat} (ho:w.ownsRow B 62 2 (.slice A rs.length c) rs.length (rs.flatMap gM.cells)) (hl:rs.length<=1000000):
  Calls Tryz.prog 46 #[.slice A rs.length c,.func (.func 47) #[] #[]] w λe w'=>e= .returned (.tuple #[])/\ ∃ d:List gM,d.Perm rs/\xZ d/\
   w'.ownsRow B 62 2 (.slice A rs.length c) rs.length (d.flatMap gM.cells)/\w.grownBy w' (Value.slice A rs.length c).ownBlock:=by
 rcases Nat.eq_zero_or_pos rs.length with h0 | h0
 ·have e0:rs=[]:=List.length_eq_zero_iff.1 h0;subst e0;refine (AnyF.slices_SortFunc_none WA A c (.func (.func 47) #[] #[]) w).mono ?_;rintro e w' ⟨rfl,rfl⟩;exact ⟨rfl,[],List.Perm.refl _,List.Pairwise.nil,ho,⟨rfl,rfl,rfl,Nat.le_refl _,λ_ _ _=>rfl⟩⟩
 obtain ⟨g,rfl⟩:=CU ho h0;have hg:g<w.heap.size:=CG ho g rfl;have hH:=X0 (enc:=gM.cells) (k:=2) (λ_=>rfl) ho rfl;have hcon:=AnyQ.slices_SortFunc WA 2 amJ agV gM.cells (λ_=>rfl) (λx v hv=>by simp [gM.cells] at hv;rcases hv with rfl | rfl<;>rfl) Kn asr 47 #[] g 0 c rs.toArray w avZ (λ_ _ _ _ x y=>UU x y _) hH hg (by simp;omega);change Calls Tryz.prog 46 _ _ _ at hcon;rw [List.size_toArray] at hcon;refine hcon.mono ?_;rintro e w' ⟨rfl,d',m,os,hp,hs,rfl⟩;obtain ⟨p1,_,p3⟩:=hp
 replace p1:d'.size=rs.length:=p1
 obtain ⟨q1,q2⟩:=UL (enc:=gM.cells) (k:=2) (d':=d') (m:=m) (os:=os) (λ_=>rfl) ho p1;refine ⟨rfl,d'.toList,?_,?_,q1,q2⟩
 ·have e1:d'.extract 0 rs.length=d':=by rw [<-p1];exact Array.extract_size
  have e2:rs.toArray.extract 0 rs.length=rs.toArray:=by simp
  rw [e1,e2] at p3;simpa using p3
 unfold xZ;rw [List.pairwise_iff_getElem];intro i j hi hj hij;rw [Array.length_toList] at hi hj;have h:=hs i j (Nat.zero_le _) hij (by omega);rw [aeg,getElem!_pos d' j hj,getElem!_pos d' i hi] at h;simp only [Array.getElem_toList];simpa using h
theorem zJ (m:gM): ∀ l:List gM,(qH m l).Perm (m::l)
 | []=>List.Perm.refl _
 | x::l=>by
  unfold qH
  split
  ·exact List.Perm.refl _
  exact ((zJ m l).cons x).trans (List.Perm.swap m x l)
theorem Jo {m:gM}: ∀ {l:List gM},xZ l->xZ (qH m l)
 | [],_=>by simp [qH,xZ]
 | x::l,h=>by
  obtain ⟨h1,h2⟩:=List.pairwise_cons.1 h;unfold qH
  split
  ·rename_i hlt
   refine List.pairwise_cons.2 ⟨λy hy=>?_,h⟩
   rcases List.mem_cons.1 hy with e | e
   ·rw [e];omega
   have:=h1 y e;omega
  rename_i hlt
  refine List.pairwise_cons.2 ⟨λy hy=>?_,Jo h2⟩
  rcases List.mem_cons.1 ((zJ m l).mem_iff.1 hy) with e | e
  ·rw [e];omega
  exact h1 y e
theorem EL: ∀ (ls:List Ls) (rs:List gM),(ls.foldl (λl x=>qH x.msg l) rs).Perm (rs++ls.map (·.msg))
 | [],rs=>by simp
 | x::ls,rs=>by
  rw [List.foldl_cons,List.map_cons];refine (EL ls (qH x.msg rs)).trans ?_;refine ((zJ x.msg rs).append_right _).trans ?_;rw [List.cons_append];exact List.perm_middle.symm
theorem PD: ∀ (ls:List Ls) {rs:List gM},xZ rs->xZ (ls.foldl (λl x=>qH x.msg l) rs)
 | [],_,h=>h
 | _::ls,_,h=>PD ls (Jo h)
theorem acS {rs d:List gM} {ls:List Ls} (hp:d.Perm (rs++ls.map (·.msg))) (ha:xZ d) (hA:xZ rs) (hN:(zu rs ls).Nodup):d=ls.foldl (λl x=>qH x.msg l) rs:=by
 have hF:=EL ls rs;have hnd:((rs++ls.map (·.msg)).map (·.no)).Nodup:=by
  unfold zu at hN;rw [List.map_append,List.map_map];exact hN
 refine List.Perm.eq_of_pairwise (le:=λa b:gM=>a.no<=b.no) (λa b ha' hb' h1 h2=>?_) ha (PD ls hA) (hp.trans hF.symm);have m1:=hp.mem_iff.1 ha';have m2:=hF.mem_iff.1 hb';have e:a.no=b.no:=by omega
 have:=List.pairwise_map.1 hnd;obtain ⟨i,hi,e1⟩:=List.getElem_of_mem m1;obtain ⟨j,hj,e2⟩:=List.getElem_of_mem m2;rw [List.pairwise_iff_getElem] at this
 rcases Nat.lt_trichotomy i j with h | h | h
 ·exact absurd (by rw [e1,e2];exact e) (this i j hi hj h)
 ·subst h;rw [<-e1,<-e2]
 exact absurd (by rw [e1,e2];exact e.symm) (this j i hj hi h)
end
section
open ChangeShapes WideShapes RowKit
def gH:Qd:=⟨0,0,0,[],[],jl⟩
def Qd.row (Q:Qd) (A1:Option Addr) (c1:Nat) (A2:Option Addr) (c2:Nat):Array Value:=dw Q.ep Q.nx Q.gv (.slice A1 Q.ready.length c1) (.slice A2 Q.bH.length c2) Q.ws
noncomputable def Qd.fault (Q:Qd):Int:=jc Q.ep Q.nx Q.gv Q.ready Q.bH Q.ws
def stepM (Q:Qd) (e:Ev):Qd×iH×Bool:=
 if e.kind=1 then EB Q e.producer.toNat e.id e.body else if e.kind=2 then LA Q else if e.kind=3 then JX Q e.aQ e.hno else Tc Q
noncomputable def jF (Q:Qd) (e:Ev):Qd×iH×Bool×Int:=
 if Q.fault≠0 then (gH,gV,false,Q.fault) else if bE e≠0 then (gH,gV,false,bE e) else ((stepM Q e).1,(stepM Q e).2.1,(stepM Q e).2.2,0)
def agW (w:World) (r:Qd×iH×Bool×Int) (e:Ending) (w':World):Prop:= ∃ A1 c1 A2 c2,e= .returned (.tuple #[.agg (dw r.1.ep r.1.nx r.1.gv (.slice A1 r.1.ready.length c1) (.slice A2 r.1.bH.length c2) r.1.ws),r.2.1.val,.bool r.2.2.1,.int .i64 r.2.2.2])/\
 St w.heap.size w w' [.cZ 2 A1 r.1.ready.length (r.1.ready.flatMap gM.cells),.cZ 4 A2 r.1.bH.length (r.1.bH.flatMap Ls.cells)]
section
variable {ep nx gv p:Int} {rs:List gM} {ls:List Ls} {W:kE}
theorem WC (h:jc ep nx gv rs ls W=0):Ta ep nx gv rs ls/\Hr W/\l7 nx (-1) rs=true/\nZ ep nx gv (-1) ls=true/\(zu rs ls).Nodup:=by
 unfold jc at h
 split at h
 ·cases h
 split at h
 ·cases h
 split at h
 ·rename_i h1 h2 h3
  exact ⟨Classical.not_not.1 h1,Classical.not_not.1 h2,h3⟩
 cases h
theorem abn: ∀ {rs:List gM} {p:Int},l7 nx p rs=true->(∀ x∈rs,p<x.no)/\rs.Pairwise λa b=>a.no<b.no
 | [],_,_=>⟨λx hx=>by simp at hx,List.Pairwise.nil⟩
 | m::r,p,h=>by
  simp only [l7,Bool.and_eq_true,decide_eq_true_eq] at h;obtain ⟨⟨_,h1⟩,h2⟩:=h;obtain ⟨h3,h4⟩:=abn h2;refine ⟨λx hx=>?_,List.pairwise_cons.2 ⟨h3,h4⟩⟩
  rcases List.mem_cons.1 hx with rfl | hx
  ·exact h1
  exact Int.lt_trans h1 (h3 x hx)
theorem agX (h:l7 nx (-1) rs=true):xZ rs:=(abn h).2.imp λh=>Int.le_of_lt h
theorem aaE: ∀ {ls:List Ls} {p:Int},nZ ep nx gv p ls=true->(∀ x∈ls,x.dQ=ep/\p<x.hno)/\ls.Pairwise λa b=>a.hno<b.hno
 | [],_,_=>⟨λx hx=>by simp at hx,List.Pairwise.nil⟩
 | m::r,p,h=>by
  simp only [nZ,Lx,Bool.and_eq_true,decide_eq_true_eq] at h;obtain ⟨⟨_,h0,h1,_⟩,h2⟩:=h;obtain ⟨h3,h4⟩:=aaE h2;refine ⟨λx hx=>?_,List.pairwise_cons.2 ⟨λx hx=>(h3 x hx).2,h4⟩⟩
  rcases List.mem_cons.1 hx with rfl | hx
  ·exact ⟨h0,h1⟩
  exact ⟨(h3 x hx).1,Int.lt_trans h1 (h3 x hx).2⟩
theorem amK (h:nZ ep nx gv (-1) ls=true): ∀ x∈ls,x.dQ=ep:=λx hx=>((aaE h).1 x hx).1
theorem amL (h:nZ ep nx gv (-1) ls=true): ∀ (i j:Nat) (a b:Ls),ls[i]? =some a->ls[j]? =some b->a.hno=b.hno->i=j:=by
 have hp:=(aaE h).2;rw [List.pairwise_iff_getElem] at hp;intro i j a b ha hb e;obtain ⟨hi,rfl⟩:=List.getElem?_eq_some_iff.1 ha;obtain ⟨hj,rfl⟩:=List.getElem?_eq_some_iff.1 hb
 rcases Nat.lt_trichotomy i j with h1 | h1 | h1
 ·have:=hp i j hi hj h1;omega
 ·exact h1
 have:=hp j i hj hi h1;omega
theorem agY {e:Ev} (h:bE e=0):1<=e.kind/\e.kind<=4:=by
 unfold bE at h
 split at h
 ·cases h
 rename_i h1
 exact Classical.not_not.1 h1
theorem agZ {e:Ev} (h:bE e=0):0<=e.producer/\e.producer<=3:=by
 unfold bE at h
 split at h
 ·cases h
 split at h
 ·cases h
 rename_i h1 h2
 split at h
 ·cases h
 split at h
 ·cases h
 rename_i h3 h4
 by_cases hk:e.kind=1
 ·have h5:=Classical.not_not.1 (λh6=>h2 ⟨hk,h6⟩);simp only [Bool.and_eq_true,jU,decide_eq_true_eq] at h5;omega
 have h5:=Classical.not_not.1 (λh6=>h4 ⟨hk,h6⟩);omega
end
section
variable {Q:Qd} {e:Ev}
theorem aiu (h:Q.fault≠0):jF Q e=(gH,gV,false,Q.fault):=if_pos h
theorem aiv (h:Q.fault=0) (h1:bE e≠0):jF Q e=(gH,gV,false,bE e):=by
 unfold jF;rw [if_neg (λh2=>h2 h),if_pos h1]
theorem Oa (h:Q.fault=0) (h1:bE e=0):jF Q e=((stepM Q e).1,(stepM Q e).2.1,(stepM Q e).2.2,0):=by
 unfold jF;rw [if_neg (λh2=>h2 h),if_neg (λh2=>h2 h1)]
end
noncomputable def iq:Qd->List iH->List Ev->Option (Qd×List iH)
 | Q,an,[]=>some (Q,an)
 | Q,an,e::r=>if (jF Q e).2.2.2=0/\(jF Q e).2.2.1=true then iq (jF Q e).1 (an++[(jF Q e).2.1]) r else none
noncomputable def aR (l:List Ev):Qd×List iH×Int:=
 if 2000<l.length then (gH,[],1) else match iq gH [] l with
  | some r=>(r.1,r.2,0)
  | none=>(gH,[],3)
section
variable {Q:Qd} {an:List iH} {l:List Ev} {e:Ev} {k:Nat}
theorem Q8 (h:l[k]? =some e) (h0:(jF Q e).2.2.2=0) (h1:(jF Q e).2.2.1=true):iq Q an (l.drop k)=iq (jF Q e).1 (an++[(jF Q e).2.1]) (l.drop (k+1)):=by
 obtain ⟨hk,hm⟩:=List.getElem?_eq_some_iff.1 h;rw [List.drop_eq_getElem_cons hk,hm,iq,if_pos ⟨h0,h1⟩]
theorem Q9 (h:l[k]? =some e) (h0: ¬ ((jF Q e).2.2.2=0/\(jF Q e).2.2.1=true)):iq Q an (l.drop k)=none:=by
 obtain ⟨hk,hm⟩:=List.getElem?_eq_some_iff.1 h;rw [List.drop_eq_getElem_cons hk,hm,iq,if_neg h0]
theorem UW (h:l.length<=k):iq Q an (l.drop k)=some (Q,an):=by
 rw [List.drop_eq_nil_of_le h];rfl
theorem LY (h:2000<l.length):aR l=(gH,[],1):=if_pos h
theorem C8 {r:Qd×List iH} (h: ¬ 2000<l.length) (h1:iq gH [] l=some r):aR l=(r.1,r.2,0):=by
 unfold aR;rw [if_neg h,h1]
theorem Iw (h: ¬ 2000<l.length) (h1:iq gH [] l=none):aR l=(gH,[],3):=by
 unfold aR;rw [if_neg h,h1]
theorem gB (h:(aR l).2.2=0):l.length<=2000:=by
 unfold aR at h
 split at h
 ·cases h
 omega
theorem acT:(stepM Q e).1.ready.length+(stepM Q e).1.bH.length<=Q.ready.length+Q.bH.length+1:=by
 unfold stepM
 split
 ·unfold EB;split; · dsimp only;omega
  split; · dsimp only;omega
  split; · dsimp only;omega
  simp only [List.length_append,List.length_cons,List.length_nil];omega
 split
 ·obtain ⟨ep,nx,gv,rs,ls,W⟩:=Q
  cases rs with
  | nil=>simp [LA]
  | cons m r=>simp only [LA];split<;>simp<;>omega
 split
 ·unfold JX;split; · dsimp only;omega
  split; · dsimp only;omega
  have:=List.length_filter_le (λx:Ls=>decide (x.hno≠e.hno)) Q.bH;simp only;omega
 unfold Tc;split; · dsimp only;omega
 have h:=(EL Q.bH Q.ready).length_eq;rw [List.length_append,List.length_map] at h;simp only [List.length_nil];omega
theorem abo (h:(jF Q e).2.2.2=0):(jF Q e).1.ready.length+(jF Q e).1.bH.length<=501:=by
 by_cases h0:Q.fault=0
 ·by_cases h1:bE e=0
  ·rw [Oa h0 h1];have h2:=(WC h0).1;unfold Ta at h2;have:=acT (Q:=Q) (e:=e);simp only;omega
  rw [aiv h0 h1];simp [gH]
 rw [aiu h0];simp [gH]
theorem BM: ∀ {l:List Ev} {Q:Qd} {an:List iH} {r:Qd×List iH},Q.ready.length+Q.bH.length<=501->iq Q an l=some r->r.1.ready.length+r.1.bH.length<=501/\r.2.length=an.length+l.length
 | [],Q,an,r,hQ,h=>by
  simp only [iq,Option.some.injEq] at h;subst h;exact ⟨hQ,by simp⟩
 | e::l,Q,an,r,hQ,h=>by
  rw [iq] at h
  split at h
  ·rename_i hc
   obtain ⟨h1,h2⟩:=BM (abo hc.1) h;exact ⟨h1,by rw [h2];simp;omega⟩
  cases h
theorem UY:(aR l).1.ready.length+(aR l).1.bH.length<=501:=by
 unfold aR
 split
 ·simp [gH]
 split
 ·rename_i r hr
  exact (BM (by simp [gH]) hr).1
 simp [gH]
end
structure bI where
 role:Int
 ep:Int
 fr:Int
 tg:Int
 rd:Int
 evs:List Ev
 deriving DecidableEq
def bG:bI:=⟨0,0,0,0,0,[]⟩
def bJ:Ev:=⟨4,0,0,0,0,0⟩
def bq (b:bI):Prop:=(b.role=0/\0<=b.ep/\b.ep<=1048576/\b.fr=0/\b.tg=0/\b.rd=0/\b.evs.length=0)\/(1<=b.ep/\b.ep<=1048576/\
 ((b.role=1/\b.fr=0/\b.tg=0/\b.rd=0)\/(b.role=2/\b.fr=0/\0<=b.tg/\b.tg<5/\0<=b.rd/\b.rd<=4)\/(b.role=3/\b.fr=0/\0<=b.tg/\b.tg<5/\b.rd=0)\/(b.role=4/\0<=b.fr/\b.fr<5/\b.tg=0/\b.rd=0)))
instance (b:bI):Decidable (bq b):=by unfold bq;exact inferInstance
open Classical in
noncomputable def aj (b:bI):Int:=if bq b/\(aR b.evs).2.2=0 then 0 else 6
section
variable {b:bI}
theorem l8 (h:bq b) (h1:(aR b.evs).2.2=0):aj b=0:=if_pos ⟨h,h1⟩
theorem Iy (h: ¬ bq b):aj b=6:=if_neg λh1=>h h1.1
theorem M9 (h: ¬ (aR b.evs).2.2=0):aj b=6:=if_neg λh1=>h h1.2
theorem eO (h:aj b=0):bq b/\(aR b.evs).2.2=0:=by
 unfold aj at h
 split at h
 ·assumption
 cases h
end
noncomputable def gN (b:bI) (e:Ev):bI×iH×Bool×Int:=
 if aj b≠0 then (bG,gV,false,aj b) else if bE e≠0 then (bG,gV,false,bE e) else if e.kind=4 then (bG,gV,false,3)
 else if b.role=3 then (b,qQ 12,false,0) else if b.role≠1/\b.role≠2 then (b,qQ 7,false,0)
 else if (jF (aR b.evs).1 e).2.2.1=false then (b,(jF (aR b.evs).1 e).2.1,false,0)
 else if 1999<=b.evs.length then (b,qQ 14,false,0) else ({ b with evs:=b.evs++[e] },(jF (aR b.evs).1 e).2.1,true,0)
noncomputable def iL (b:bI) (ep:Int):bI×Int:=
 if aj b≠0 then (bG,aj b) else if ¬ (1<=ep/\ep<=1048576) then (bG,2) else if b.role≠0 then (bG,8) else if ep<=b.ep then (bG,15) else (⟨1,ep,0,0,0,[]⟩,0)
noncomputable def yP (b:bI) (tg:Int):bI×Int:=
 if aj b≠0 then (bG,aj b) else if ¬ (0<=tg/\tg<=4) then (bG,2) else if b.role=2\/b.role=3 then (bG,12) else if b.role≠1 then (bG,7)
 else if b.ep=1048576 then (bG,14) else (⟨2,b.ep,0,tg,0,b.evs⟩,0)
noncomputable def bK (b:bI) (hv:Int):bI×Int:=
 if aj b≠0 then (bG,aj b) else if b.role≠2/\b.role≠3 then (bG,7) else if ¬ (0<=hv/\hv<=b.evs.length) then (bG,2)
 else if b.role=3 then (b,0) else if hv=b.evs.length\/b.rd=4 then ({ b with role:=3,rd:=0 },0) else ({ b with rd:=b.rd+1 },0)
noncomputable def ji (b:bI) (hv:Int):List Ev×Bool×Int:=
 if aj b≠0 then ([],false,aj b) else if b.role≠2/\b.role≠3 then ([],false,7) else if ¬ (0<=hv/\hv<=b.evs.length) then ([],false,2)
 else ((b.evs.drop hv.toNat).take 3,decide (b.role=3/\b.evs.length<=hv.toNat+3),0)
noncomputable def dH (b:bI) (ep fr:Int):bI×Int:=
 if aj b≠0 then (bG,aj b) else if ¬ (1<=ep/\ep<=1048576/\0<=fr/\fr<=4) then (bG,2) else if b.role≠0/\b.role≠4 then (bG,8)
 else if b.role=4/\b.ep=ep/\b.fr=fr then (b,0) else if ep<=b.ep then (bG,15) else (⟨4,ep,fr,0,0,[]⟩,0)
noncomputable def dB (b:bI) (ep at_:Int) (l:List Ev) (last:Bool):bI×Int:=
 if aj b≠0 then (bG,aj b) else if b.role≠4 then (bG,7) else if b.ep≠ep then (bG,15) else if ¬ (0<=at_/\at_<=b.evs.length) then (bG,2)
 else if ¬ (b.evs.drop at_.toNat).take l.length=l.take (b.evs.length-at_.toNat) then (bG,3)
 else if last=true/\at_.toNat+l.length<b.evs.length then (bG,3)
 else if aj (if last=true then ⟨1,ep,0,0,0,b.evs++l.drop (b.evs.length-at_.toNat)++[bJ]⟩ else { b with evs:=b.evs++l.drop (b.evs.length-at_.toNat) })≠0 then (bG,3)
 else (if last=true then ⟨1,ep,0,0,0,b.evs++l.drop (b.evs.length-at_.toNat)++[bJ]⟩ else { b with evs:=b.evs++l.drop (b.evs.length-at_.toNat) },0)
noncomputable def gq (b:bI) (ep:Int):bI×Int:=
 if aj b≠0 then (bG,aj b) else if b.role≠3 then (bG,7) else if ep<=b.ep then (bG,15) else (⟨0,b.ep,0,0,0,[]⟩,0)
noncomputable def fJ (b:bI):bI×Int:=
 if aj b≠0 then (bG,aj b) else if b.role≠1/\b.role≠2 then (b,0)
 else if aj ⟨1,b.ep,0,0,0,b.evs++[bJ]⟩≠0 then (bG,14) else (⟨1,b.ep,0,0,0,b.evs++[bJ]⟩,0)
theorem kD {α:Type} {a b:α} (h:a=b:=by (repeat' (first | rfl | omega | split))<;>(simp only [Prod.mk.injEq,bI.mk.injEq,and_true,true_and,and_self];omega)):a=b:=h
end
section
abbrev bR (b:bI) (A:Option Addr) (c:Nat):Array Value:= #[iV b.role,iV b.ep,iV b.fr,iV b.tg,iV b.rd,.slice A b.evs.length c]
abbrev zB:Array Value:= #[iV 0,iV 0,iV 0,iV 0,iV 0,.slice none 0 0]
abbrev rR (k q e p:Int) (x:Ev):Array Value:= #[iV k,iV q,iV e,iV p,iV x.kind,iV x.producer,iV x.id,iV x.body,iV x.aQ,iV x.hno]
end
section
open ChangeShapes WideShapes RowKit
theorem Yf {B g k c1 c2:Nat} {w0 w:World} {fs:List Fact} {A1 A2:Option Addr} {rs:List gM} {ls:List Ls} {W:kE} {ep nx gv kd id bd he hn:Int} (S:St B w0 w (.blk g (dw ep nx gv (.slice A1 rs.length c1) (.slice A2 ls.length c2) W) 91:: .own 62 2 (.slice A1 rs.length c1) rs.length ((rs).flatMap gM.cells):: .own 64 4 (.slice A2 ls.length c2) ls.length ((ls).flatMap Ls.cells)::fs)) (hk:k<4) (hlen:rs.length+ls.length<=500) (hnx:0<=nx/\nx<=1073741824) (hgv:0<=gv/\gv<=1073741824) (dQ:0<=ep/\ep<=1048576) (hA:xZ rs) (hN:(zu rs ls).Nodup):
    Calls Tryz.prog 31 #[pV g 0,.agg #[iV kd,iV ((k:Nat):Int),iV id,iV bd,iV he,iV hn]] w (CV B w0 g fs (Tc ⟨ep,nx,gv,rs,ls,W⟩)):=by
 refine gy 63 Tryz.func31 ?_;refine cw [0,1] ?_;refine zN 2 ?_;refine iC S ?_;intro b1 w2 S3;refine fO S3 rE ?_;intro b4 w5 S6;refine zN 10 ?_;refine vv (ah rfl rfl (av Tryz.underlying3 rfl (St.cl 2 S6 rfl wS))) ?_;by_cases h1:ep=1048576
 ·refine zN 6 ?_;refine vv (v:= .agg #[iV 14,iV 0,iV 0,iV 0]) fT ?_;refine sa 0 S6 bQ ?_;intro w7 S8;refine zN 6 ?_;have S9:=S8.aT [1,0];have pI:=S9.bD 1 rfl;have qI:=pI.bD 2 rfl;rw [acL h1];refine ⟨rfl,A1,c1,A2,c2,?_⟩;dsimp only;exact qI
 refine zN 13 ?_;refine vv (ah rfl rfl (av Tryz.underlying40 rfl (St.cl 2 S6 rfl rF))) ?_;refine zN 5 ?_;refine eD (X:=Nat×(Option Addr)×Nat) (λxv=>[(0,pV g 0),(4,pV b4 0),(5,.bool false),(19,.slice A2 ls.length c2),(20,iV ((ls.length:Nat):Int)),(21,iV ((xv.1:Nat):Int))]) (λxv wr=>(xv.1<=ls.length)/\St B w0 wr ((.blk b4 #[iV 0,iV 0,iV 0,iV 0] 58)::(.blk b1 #[iV kd,iV ((k:Nat):Int),iV id,iV bd,iV he,iV hn] 55)::(.blk g (dw ep nx gv (.slice xv.2.1 (rs.length+xv.1) xv.2.2) (.slice A2 ls.length c2) W) 91)::(.own 62 2 (.slice xv.2.1 (rs.length+xv.1) xv.2.2) (rs.length+xv.1) ((rs++(ls.take xv.1).map (·.msg)).flatMap gM.cells))::(.own 64 4 (.slice A2 ls.length c2) ls.length ((ls).flatMap Ls.cells))::fs)) (λxv=>ls.length-xv.1) (0,A1,c1) ?_ ?_ ?_
 ·exact ⟨Nat.zero_le _,by dsimp only;rw [show rs++(ls.take 0).map (·.msg)=rs by simp];exact S6⟩
 ·exact ⟨rfl,rfl,rfl,rfl,rfl,rfl,trivial⟩
 rintro ⟨q,Ab,cb⟩ XW ⟨JZ,wX⟩
 try dsimp only at JZ wX
 refine bn (l':=[(0,pV g 0),(4,pV b4 0),(5,.bool false),(19,.slice A2 ls.length c2),(20,iV ((ls.length:Nat):Int)),(21,iV ((q:Nat):Int))]) ⟨rfl,rfl,rfl,rfl,rfl,rfl,trivial⟩ (aH (aB ?_));by_cases h15:((q:Nat):Int)< ((ls.length:Nat):Int)
 ·refine zN 11 ?_;obtain ⟨b16,o17,rfl⟩:=Rd.addr (St.ord 4 wX rfl) (by omega);obtain ⟨x18,C9⟩:=Ho q (St.ord 4 wX rfl) (by omega);refine vv (jX q) ?_;refine vv (ah rfl rfl (aA (cs:=Ls.cells x18) Tryz.underlying64 rfl F7 rfl (Rd.uY (St.ord 4 wX rfl) (λ_ _ h=>bC (enc:=Ls.cells) (sz:=4) (λ_=>rfl) C9 h)))) ?_;refine fO wX aod ?_;intro b20 EH iI;refine sa 0 iI F7 ?_;intro Jp jy;refine zN 2 ?_;have jm:=jy.drew;refine fq 14 10 jm [4] ?_;iterate 5 refine gK ?_
  refine gk (v:= .slice Ab (rs.length+q) cb) 5 rfl (St.del 4 jm) (λ_ Yg=>(ah rfl rfl (av Tryz.underlying39 rfl (St.cl 3 Yg rfl oK)))) ?_;refine gK ?_;refine gk (v:= .agg #[iV x18.msg.no,iV x18.msg.body]) 7 rfl (St.del 4 jm) (λ_ ajv=>(ah rfl rfl (aA (cs:=[iV x18.msg.no,iV x18.msg.body]) Tryz.underlying62 rfl DI rfl (St.rg 0 ajv rfl (je (x:=2) (m:=2) rfl))))) ?_;refine eH (m:=5) (r:=8) (by kernel_rfl) ?_;refine lK (i:=8) rfl rfl (V:=λb=> .slice (aD b 0) 1 1) (row:= #[iV x18.msg.no,iV x18.msg.body]) (t:=62) jm (wn rfl) rfl rfl (aV (vs:=[(0,.agg #[iV x18.msg.no,iV x18.msg.body])]) rfl ⟨rfl,rfl,trivial⟩ (by kernel_rfl)) ?_;intro b34 RZ kF;refine gK ?_;refine eH (m:=4) (r:=9) (by kernel_rfl) ?_;refine kJ (i:=9) rfl rfl (news:=[iV x18.msg.no,iV x18.msg.body]) (xs':=(rs++(ls.take (q+1)).map (·.msg)).flatMap gM.cells) 5 kF (wn rfl) rfl rfl rfl rfl rfl rfl (St.lC (xs:=[iV x18.msg.no,iV x18.msg.body]) 0 kF rfl rfl rfl) Tryz.underlying39 RS rfl (by decide) (bL rfl) (by simp only [maxLen];omega) (by omega) (iO (enc:=gM.cells) (by rw [List.append_assoc,Iu (f:=λx:Ls=>x.msg) C9]) rfl) ?_;intro A37 c38 w39 aFM aFN u7;refine gK ?_;refine eG (by kernel_rfl) rfl rfl rfl ?_;refine zN 3 ?_;refine jk 4 u7 NM ?_ (hs:=by exact Gx);intro w43 DX;refine zQ ?_;refine iK ?_;refine zN 3 ?_;refine vv (v:=iV ((q+1:Nat):Int)) jg ?_;refine zN 2 ?_;have nI:=DX.aT [1,0];refine aU (q+1,A37,c38) ?_ ⟨rfl,rfl,rfl,rfl,rfl,rfl,trivial⟩ (by first | omega | (dsimp only;omega));exact ⟨(by dsimp only;omega),nI⟩
 refine zN 12 ?_;obtain rfl:q=ls.length:=by omega
 have qL:=wX;rw [List.take_length] at qL;refine zN 4 ?_;refine vv (ah rfl rfl (av Tryz.underlying39 rfl (St.cl 2 qL rfl oK))) ?_;have hml:(rs++ls.map (·.msg)).length=rs.length+ls.length:=by simp
 have HS:=λA c w (ho:World.ownsRow w B 62 2 (.slice A (rs++ls.map (·.msg)).length c) (rs++ls.map (·.msg)).length ((rs++ls.map (·.msg)).flatMap gM.cells))=>Q7 A c (rs++ls.map (·.msg)) w ho (by omega);rw [hml] at HS;refine dN avY (HS Ab cb _ (qL.own 3 rfl)) ?_;rintro _ w47 ⟨rfl,d49,aoz,aw1,aoA,aoB⟩;refine ⟨_,rfl,?_⟩;have uZ:=qL.append 3 rfl aoB aoA (.inl rfl);have hdl:=acS aoz aw1 hA hN;clear HS aoA aoB qL;refine zN 8 ?_;refine jk 2 uZ NP ?_ (hs:=by exact Gy);intro w54 uK;refine zN 8 ?_;refine vv (ah rfl rfl (av Tryz.underlying3 rfl (St.cl 2 uK rfl wS))) ?_;refine vv (v:=iV (ep+1)) jg ?_;refine zN 3 ?_;refine jk 2 uK mU ?_ (hs:=by exact agE);intro w56 qh;refine zN 8 ?_;refine jk 2 qh mU ?_ (hs:=by exact Wn);intro w58 zS;refine zN 5 ?_;refine sa 0 zS bQ ?_;intro WE DY;refine zN 5 ?_;have Hz:=DY.aT [1,0];have u6:=Hz.bD 1 rfl;have S64:=u6.seal 2 rfl Rd.none_ (λ(a:Addr) (h:(none:Option Addr)=some a)=>by cases h);have hln:d49.length=rs.length+ls.length:=by rw [aoz.length_eq,hml]
 rw [amw h1,<-hdl];refine ⟨rfl,Ab,cb,none,0,?_⟩;dsimp only;rw [hln];exact S64
end
end Go.Proofs.YtnhimdkpkmbhlaaGreatDoor
