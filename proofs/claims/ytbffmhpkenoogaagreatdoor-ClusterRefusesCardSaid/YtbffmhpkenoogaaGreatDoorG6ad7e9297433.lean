/- Parts of proofs: lemmas on memory, on single functions and on the plain models; no condition of their own. -/
import Derived.Shelf.SlicesG.Cmp
import Derived.Shelf.SlGeneric
import Derived.Ground.SlsfProg
import Derived.Ground.SlgcProg
import Derived.Test.YtbffmhpkenoogaaGreatDoorG470df31e9fbe
import Derived.Test.YtbffmhpkenoogaaGreatDoorG67112a8e04e4
import Derived.Test.YtbffmhpkenoogaaGreatDoorG6893ca8dd176
set_option linter.unusedVariables false
set_option linter.unusedSimpArgs false
set_option linter.unnecessarySimpa false
set_option maxRecDepth 100000
set_option maxHeartbeats 8000000

namespace Go.Proofs.YtbffmhpkenoogaaGreatDoor
section
open Go.Shelf Go.RowKit Go.Lib Go.Sort
def PE:Go.Shelf.Ren:=⟨fun | 6=>91 | 15=>116 | 14=>115 | 28=>144 | 29=>145 | 20=>136 | 21=>137 | 22=>138 | 23=>139 | 24=>140 | 25=>141 | 26=>142 | 27=>143 | 46=>174 | 47=>175 | 48=>176 | 49=>177 | 50=>178 | 57=>184 | n=>n,fun | 22=>50 | 24=>88 | 25=>197 | 3=>3 | 39=>228 | 0=>0 | 53=>250 | 55=>252 | 4=>4 | 46=>244 | 45=>243 | 50=>45 | 5=>5 | 9=>9 | 66=>269 | 70=>162 | 76=>279 | 77=>153 | n=>n,fun | n=>n⟩
theorem UN:Go.Proofs.SlLaysF0.n6 Tryz.prog PE:={
 mixed:=by kernel_rfl
 f6:=⟨Tryz.f91.name,by decide,Tryz.func91.trans (congrArg some (by kernel_rfl))⟩
 f14:=⟨Tryz.f115.name,by decide,Tryz.func115.trans (congrArg some (by kernel_rfl))⟩
 f15:=Tryz.func116.trans (congrArg some (by kernel_rfl))
 f20:=⟨Tryz.f136.name,by decide,Tryz.func136.trans (congrArg some (by kernel_rfl))⟩
 f21:=⟨Tryz.f137.name,by decide,Tryz.func137.trans (congrArg some (by kernel_rfl))⟩
 f22:=⟨Tryz.f138.name,by decide,Tryz.func138.trans (congrArg some (by kernel_rfl))⟩
 f23:=⟨Tryz.f139.name,by decide,Tryz.func139.trans (congrArg some (by kernel_rfl))⟩
 f24:=⟨Tryz.f140.name,by decide,Tryz.func140.trans (congrArg some (by kernel_rfl))⟩
 f25:=⟨Tryz.f141.name,by decide,Tryz.func141.trans (congrArg some (by kernel_rfl))⟩
 f26:=⟨Tryz.f142.name,by decide,Tryz.func142.trans (congrArg some (by kernel_rfl))⟩
 f27:=⟨Tryz.f143.name,by decide,Tryz.func143.trans (congrArg some (by kernel_rfl))⟩
 f28:=Tryz.func144.trans (congrArg some (by kernel_rfl))
 f29:=Tryz.func145.trans (congrArg some (by kernel_rfl))
 f46:=⟨Tryz.f174.name,by decide,Tryz.func174.trans (congrArg some (by kernel_rfl))⟩
 f47:=Tryz.func175.trans (congrArg some (by kernel_rfl))
 f48:=Tryz.func176.trans (congrArg some (by kernel_rfl))
 f49:=⟨Tryz.f177.name,by decide,Tryz.func177.trans (congrArg some (by kernel_rfl))⟩
 f50:=⟨Tryz.f178.name,by decide,Tryz.func178.trans (congrArg some (by kernel_rfl))⟩
 f57:=⟨Tryz.f184.name,by decide,Tryz.func184.trans (congrArg some (by kernel_rfl))⟩
 t0:=Tryz.underlying0
 a0:=Tryz.isAgg0
 z0:=Tryz.sizeOf0
 v0:=Tryz.zeroValue0
 t3:=Tryz.underlying3
 a3:=Tryz.isAgg3
 z3:=Tryz.sizeOf3
 v3:=Tryz.zeroValue3
 t4:=Tryz.underlying4
 a4:=Tryz.isAgg4
 z4:=Tryz.sizeOf4
 v4:=Tryz.zeroValue4
 t5:=Tryz.underlying5
 a5:=Tryz.isAgg5
 z5:=Tryz.sizeOf5
 v5:=Tryz.zeroValue5
 t9:=Tryz.underlying9
 a9:=Tryz.isAgg9
 z9:=Tryz.sizeOf9
 v9:=Tryz.zeroValue9
 t22:=Tryz.underlying50
 a22:=Tryz.isAgg50
 z22:=Tryz.sizeOf50
 v22:=Tryz.zeroValue50
 t25:=Tryz.underlying197
 a25:=Tryz.isAgg197
 z25:=Tryz.sizeOf197
 v25:=Tryz.zeroValue197
 t39:=Tryz.underlying228
 a39:=Tryz.isAgg228
 z39:=Tryz.sizeOf228
 v39:=Tryz.zeroValue228
 t45:=Tryz.underlying243
 a45:=Tryz.isAgg243
 z45:=Tryz.sizeOf243
 v45:=Tryz.zeroValue243
 t46:=Tryz.underlying244
 a46:=Tryz.isAgg244
 z46:=Tryz.sizeOf244
 v46:=Tryz.zeroValue244
 t50:=Tryz.underlying45
 a50:=Tryz.isAgg45
 z50:=Tryz.sizeOf45
 v50:=Tryz.zeroValue45
 t53:=Tryz.underlying250
 a53:=Tryz.isAgg250
 z53:=Tryz.sizeOf250
 v53:=Tryz.zeroValue250
 t55:=Tryz.underlying252
 a55:=Tryz.isAgg252
 z55:=Tryz.sizeOf252
 v55:=Tryz.zeroValue252
 t66:=Tryz.underlying269
 a66:=Tryz.isAgg269
 z66:=Tryz.sizeOf269
 v66:=Tryz.zeroValue269
 t70:=Tryz.underlying162
 a70:=Tryz.isAgg162
 z70:=Tryz.sizeOf162
 v70:=Tryz.zeroValue162
 t76:=Tryz.underlying279
 a76:=Tryz.isAgg279
 z76:=Tryz.sizeOf279
 v76:=Tryz.zeroValue279
 t77:=Tryz.underlying153
 a77:=Tryz.isAgg153
 z77:=Tryz.sizeOf153
 v77:=Tryz.zeroValue153 }
def Ta:Go.Shelf.Ren:=⟨fun | 5=>117 | 7=>146 | n=>n,fun | 22=>3 | 3=>3 | 4=>4 | n=>n,fun | n=>n⟩
theorem akE:Go.Proofs.SlLaysC2.n5 Tryz.prog Ta:={
 mixed:=by kernel_rfl
 f5:=⟨Tryz.f117.name,by decide,Tryz.func117.trans (congrArg some (by kernel_rfl))⟩
 f7:=⟨Tryz.f146.name,by decide,Tryz.func146.trans (congrArg some (by kernel_rfl))⟩
 t3:=Tryz.underlying3
 a3:=Tryz.isAgg3
 z3:=Tryz.sizeOf3
 v3:=Tryz.zeroValue3
 t4:=Tryz.underlying4
 a4:=Tryz.isAgg4
 z4:=Tryz.sizeOf4
 v4:=Tryz.zeroValue4
 t22:=Tryz.underlying3
 a22:=Tryz.isAgg3
 z22:=Tryz.sizeOf3
 v22:=Tryz.zeroValue3 }
end
open Go.Shelf
open Go.ChangeShapes Go.WideShapes Go.ChangeAt Go.RowKit
open Go.Sort (HoldsK PermIn SortedIn SWO grow)
instance:Inhabited fP:=⟨⟨0,0⟩⟩
def II (x y:fP):Int:=Lib.compareInt x.no y.no
theorem acA (x y:fP):ltOf II x y=decide (x.no<y.no):=by
 unfold ltOf II Lib.compareInt;by_cases h1:x.no<y.no
 ·simp [h1]
 by_cases h2:y.no<x.no<;>simp [h1,h2]
theorem apN:SWO (ltOf II) where
 irrefl x:=by rw [acA];simp
 trans x y z h1 h2:=by rw [acA] at*;simp at*;omega
 ntrans x y z h1 h2:=by rw [acA] at*;simp at*;omega
theorem Tc (x y:fP) (W:World):Calls Tryz.prog 92 #[.agg #[.int .i64 x.no,.int .i64 x.body],.agg #[.int .i64 y.no,.int .i64 y.body]] W fun e w'=>e= .returned (.int .i64 (II x y))∧ ∃ q os',w'=grow (W.drewN q) os':=by
 have hcon:=fun W'=>AnyG.cmp_Compare_int akE x.no y.no W'
 change ∀ W',Calls Tryz.prog 117 _ _ _ at hcon;unfold II;generalize Lib.compareInt x.no y.no=r at hcon⊢
 go_enter Tryz.func92,Tryz.ntmps92
 go_wp2_with (go_at_call 117;refine (hcon _).mono ?_;rintro e w' ⟨rfl,rfl⟩)
 go_ret
 exact ⟨rfl,0,_,by rw [Go.Sort.alloc_eq_grow,Go.Sort.alloc_eq_grow,Go.Sort.grow_grow];rfl⟩
theorem akF: ∀ w,(isAgg 88).run Tryz.prog w= .ok true w:=by
 intro w;simp [isAgg,run_underlying Tryz.underlying88,Sem.run_bind,Result.andThen]
theorem ae5: ∀ w,(Go.sizeOf 88).run Tryz.prog w= .ok 2 w:=by
 intro w;obtain ⟨z,hq,hs⟩: ∃ z,Tryz.prog.info? 88=some z∧z.size=2:=by
  have h:=Cu
  cases hi:Tryz.prog.info? 88 with
  | none=>simp [hi] at h
  | some z=>exact ⟨z,rfl,by simpa [hi] using h⟩
 simp [sizeOf,typeInfo,hq,hs,Sem.run_bind,Result.andThen]
def xu (l:List fP):Prop:=l.Pairwise fun a b=>a.no≤b.no
theorem PG (A:Option Addr) (c:Nat) (rs:List fP) (w:World) {B:Nat} (ho:w.ownsRow B 88 2 (.slice A rs.length c) rs.length (rs.flatMap fP.cells)) (hl:rs.length≤1000000):
  Calls Tryz.prog 91 #[.slice A rs.length c,.func (.func 92) #[] #[]] w fun e w'=>e= .returned (.tuple #[])∧ ∃ d:List fP,d.Perm rs∧xu d∧
   w'.ownsRow B 88 2 (.slice A rs.length c) rs.length (d.flatMap fP.cells)∧w.grownBy w' (Value.slice A rs.length c).ownBlock:=by
 rcases Nat.eq_zero_or_pos rs.length with h0 | h0
 ·have e0:rs=[]:=List.length_eq_zero_iff.1 h0;subst e0;refine (AnyF.slices_SortFunc_none UN A c (.func (.func 92) #[] #[]) w).mono ?_;rintro e w' ⟨rfl,rfl⟩;exact ⟨rfl,[],List.Perm.refl _,List.Pairwise.nil,ho,⟨rfl,rfl,rfl,Nat.le_refl _,fun _ _ _=>rfl⟩⟩
 obtain ⟨g,rfl⟩:=BK ho h0;have hg:g<w.heap.size:=Bz ho g rfl;have hH:=Ws (enc:=fP.cells) (k:=2) (fun _=>rfl) ho rfl;have hcon:=AnyQ.slices_SortFunc UN 2 akF ae5 fP.cells (fun _=>rfl) (fun x v hv=>by simp [fP.cells] at hv;rcases hv with rfl | rfl<;>rfl) II apN 92 #[] g 0 c rs.toArray w asO (fun _ _ _ _ x y=>Tc x y _) hH hg (by simp;omega);change Calls Tryz.prog 91 _ _ _ at hcon;rw [List.size_toArray] at hcon;refine hcon.mono ?_;rintro e w' ⟨rfl,d',m,os,hp,hs,rfl⟩;obtain ⟨p1,_,p3⟩:=hp
 replace p1:d'.size=rs.length:=p1
 obtain ⟨q1,q2⟩:=SN (enc:=fP.cells) (k:=2) (d':=d') (m:=m) (os:=os) (fun _=>rfl) ho p1;refine ⟨rfl,d'.toList,?_,?_,q1,q2⟩
 ·have e1:d'.extract 0 rs.length=d':=by rw [←p1];exact Array.extract_size
  have e2:rs.toArray.extract 0 rs.length=rs.toArray:=by simp
  rw [e1,e2] at p3;simpa using p3
 unfold xu;rw [List.pairwise_iff_getElem];intro i j hi hj hij;rw [Array.length_toList] at hi hj;have h:=hs i j (Nat.zero_le _) hij (by omega);rw [acA,getElem!_pos d' j hj,getElem!_pos d' i hi] at h;simp only [Array.getElem_toList];simpa using h
theorem yL (m:fP): ∀ l:List fP,(qg m l).Perm (m::l)
 | []=>List.Perm.refl _
 | x::l=>by
  unfold qg
  split
  ·exact List.Perm.refl _
  exact ((yL m l).cons x).trans (List.Perm.swap m x l)
theorem G8 {m:fP}: ∀ {l:List fP},xu l→xu (qg m l)
 | [],_=>by simp [qg,xu]
 | x::l,h=>by
  obtain ⟨h1,h2⟩:=List.pairwise_cons.1 h;unfold qg
  split
  ·rename_i hlt
   refine List.pairwise_cons.2 ⟨fun y hy=>?_,h⟩
   rcases List.mem_cons.1 hy with e | e
   ·rw [e];omega
   have:=h1 y e;omega
  rename_i hlt
  refine List.pairwise_cons.2 ⟨fun y hy=>?_,G8 h2⟩
  rcases List.mem_cons.1 ((yL m l).mem_iff.1 hy) with e | e
  ·rw [e];omega
  exact h1 y e
theorem Dy: ∀ (ls:List Ls) (rs:List fP),(ls.foldl (fun l x=>qg x.msg l) rs).Perm (rs++ls.map (·.msg))
 | [],rs=>by simp
 | x::ls,rs=>by
  rw [List.foldl_cons,List.map_cons];refine (Dy ls (qg x.msg rs)).trans ?_;refine ((yL x.msg rs).append_right _).trans ?_;rw [List.cons_append];exact List.perm_middle.symm
theorem NW: ∀ (ls:List Ls) {rs:List fP},xu rs→xu (ls.foldl (fun l x=>qg x.msg l) rs)
 | [],_,h=>h
 | _::ls,_,h=>NW ls (G8 h)
theorem aa2 {rs d:List fP} {ls:List Ls} (hp:d.Perm (rs++ls.map (·.msg))) (ha:xu d) (hA:xu rs) (hN:(yF rs ls).Nodup):d=ls.foldl (fun l x=>qg x.msg l) rs:=by
 have hF:=Dy ls rs;have hnd:((rs++ls.map (·.msg)).map (·.no)).Nodup:=by
  unfold yF at hN;rw [List.map_append,List.map_map];exact hN
 refine List.Perm.eq_of_pairwise (le:=fun a b:fP=>a.no≤b.no) (fun a b ha' hb' h1 h2=>?_) ha (NW ls hA) (hp.trans hF.symm);have m1:=hp.mem_iff.1 ha';have m2:=hF.mem_iff.1 hb';have e:a.no=b.no:=by omega
 have:=List.pairwise_map.1 hnd;obtain ⟨i,hi,e1⟩:=List.getElem_of_mem m1;obtain ⟨j,hj,e2⟩:=List.getElem_of_mem m2;rw [List.pairwise_iff_getElem] at this
 rcases Nat.lt_trichotomy i j with h | h | h
 ·exact absurd (by rw [e1,e2];exact e) (this i j hi hj h)
 ·subst h;rw [←e1,←e2]
 exact absurd (by rw [e1,e2];exact e.symm) (this j i hj hi h)
end Go.Proofs.YtbffmhpkenoogaaGreatDoor
namespace Go.Proofs.YtbffmhpkenoogaaGreatDoor
open Go.ChangeShapes Go.WideShapes Go.RowKit
def gN:Qd:=⟨0,0,0,[],[],iW⟩
def Qd.row (Q:Qd) (A1:Option Addr) (c1:Nat) (A2:Option Addr) (c2:Nat):Array Value:=bV Q.ep Q.nx Q.gv (.slice A1 Q.ready.length c1) (.slice A2 Q.bC.length c2) Q.ws
noncomputable def Qd.fault (Q:Qd):Int:=iL Q.ep Q.nx Q.gv Q.ready Q.bC Q.ws
def stepM (Q:Qd) (e:Ev):Qd×iK×Bool:=
 if e.kind=1 then Dn Q e.producer.toNat e.id e.body else if e.kind=2 then JL Q else if e.kind=3 then Ic Q e.aL e.hno else Q6 Q
noncomputable def jF (Q:Qd) (e:Ev):Qd×iK×Bool×Int:=
 if Q.fault≠0 then (gN,gF,false,Q.fault) else if bE e≠0 then (gN,gF,false,bE e) else ((stepM Q e).1,(stepM Q e).2.1,(stepM Q e).2.2,0)
def ae6 (w:World) (r:Qd×iK×Bool×Int) (e:Ending) (w':World):Prop:= ∃ A1 c1 A2 c2,e= .returned (.tuple #[.agg (bV r.1.ep r.1.nx r.1.gv (.slice A1 r.1.ready.length c1) (.slice A2 r.1.bC.length c2) r.1.ws),r.2.1.val,.bool r.2.2.1,.int .i64 r.2.2.2])∧
 St w.heap.size w w' [.bG 2 A1 r.1.ready.length (r.1.ready.flatMap fP.cells),.bG 4 A2 r.1.bC.length (r.1.bC.flatMap Ls.cells)]
section
variable {ep nx gv p:Int} {rs:List fP} {ls:List Ls} {W:jP}
theorem UO (h:iL ep nx gv rs ls W=0):Q5 ep nx gv rs ls∧FN W∧lH nx (-1) rs=true∧nK ep nx gv (-1) ls=true∧(yF rs ls).Nodup:=by
 unfold iL at h
 split at h
 ·cases h
 split at h
 ·cases h
 split at h
 ·rename_i h1 h2 h3
  exact ⟨Classical.not_not.1 h1,Classical.not_not.1 h2,h3⟩
 cases h
theorem ZE: ∀ {rs:List fP} {p:Int},lH nx p rs=true→(∀ x∈rs,p<x.no)∧rs.Pairwise fun a b=>a.no<b.no
 | [],_,_=>⟨fun x hx=>by simp at hx,List.Pairwise.nil⟩
 | m::r,p,h=>by
  simp only [lH,Bool.and_eq_true,decide_eq_true_eq] at h;obtain ⟨⟨_,h1⟩,h2⟩:=h;obtain ⟨h3,h4⟩:=ZE h2;refine ⟨fun x hx=>?_,List.pairwise_cons.2 ⟨h3,h4⟩⟩
  rcases List.mem_cons.1 hx with rfl | hx
  ·exact h1
  exact Int.lt_trans h1 (h3 x hx)
theorem ae7 (h:lH nx (-1) rs=true):xu rs:=(ZE h).2.imp fun h=>Int.le_of_lt h
theorem YJ: ∀ {ls:List Ls} {p:Int},nK ep nx gv p ls=true→(∀ x∈ls,x.gG=ep∧p<x.hno)∧ls.Pairwise fun a b=>a.hno<b.hno
 | [],_,_=>⟨fun x hx=>by simp at hx,List.Pairwise.nil⟩
 | m::r,p,h=>by
  simp only [nK,JK,Bool.and_eq_true,decide_eq_true_eq] at h;obtain ⟨⟨_,h0,h1,_⟩,h2⟩:=h;obtain ⟨h3,h4⟩:=YJ h2;refine ⟨fun x hx=>?_,List.pairwise_cons.2 ⟨fun x hx=>(h3 x hx).2,h4⟩⟩
  rcases List.mem_cons.1 hx with rfl | hx
  ·exact ⟨h0,h1⟩
  exact ⟨(h3 x hx).1,Int.lt_trans h1 (h3 x hx).2⟩
theorem akG (h:nK ep nx gv (-1) ls=true): ∀ x∈ls,x.gG=ep:=fun x hx=>((YJ h).1 x hx).1
theorem akH (h:nK ep nx gv (-1) ls=true): ∀ (i j:Nat) (a b:Ls),ls[i]? =some a→ls[j]? =some b→a.hno=b.hno→i=j:=by
 have hp:=(YJ h).2;rw [List.pairwise_iff_getElem] at hp;intro i j a b ha hb e;obtain ⟨hi,rfl⟩:=List.getElem?_eq_some_iff.1 ha;obtain ⟨hj,rfl⟩:=List.getElem?_eq_some_iff.1 hb
 rcases Nat.lt_trichotomy i j with h1 | h1 | h1
 ·have:=hp i j hi hj h1;omega
 ·exact h1
 have:=hp j i hj hi h1;omega
theorem ae8 {e:Ev} (h:bE e=0):1≤e.kind∧e.kind≤4:=by
 unfold bE at h
 split at h
 ·cases h
 rename_i h1
 exact Classical.not_not.1 h1
theorem ae9 {e:Ev} (h:bE e=0):0≤e.producer∧e.producer≤3:=by
 unfold bE at h
 split at h
 ·cases h
 split at h
 ·cases h
 rename_i h1 h2
 split at h
 ·cases h
 split at h
 ·cases h
 rename_i h3 h4
 by_cases hk:e.kind=1
 ·have h5:=Classical.not_not.1 (fun h6=>h2 ⟨hk,h6⟩);simp only [Bool.and_eq_true,jh,decide_eq_true_eq] at h5;omega
 have h5:=Classical.not_not.1 (fun h6=>h4 ⟨hk,h6⟩);omega
end
section
variable {Q:Qd} {e:Ev}
theorem agw (h:Q.fault≠0):jF Q e=(gN,gF,false,Q.fault):=if_pos h
theorem agx (h:Q.fault=0) (h1:bE e≠0):jF Q e=(gN,gF,false,bE e):=by
 unfold jF;rw [if_neg (fun h2=>h2 h),if_pos h1]
theorem Mk (h:Q.fault=0) (h1:bE e=0):jF Q e=((stepM Q e).1,(stepM Q e).2.1,(stepM Q e).2.2,0):=by
 unfold jF;rw [if_neg (fun h2=>h2 h),if_neg (fun h2=>h2 h1)]
end
noncomputable def gP:Qd→List iK→List Ev→Option (Qd×List iK)
 | Q,an,[]=>some (Q,an)
 | Q,an,e::r=>if (jF Q e).2.2.2=0∧(jF Q e).2.2.1=true then gP (jF Q e).1 (an++[(jF Q e).2.1]) r else none
noncomputable def aV (l:List Ev):Qd×List iK×Int:=
 if 2000<l.length then (gN,[],1) else match gP gN [] l with
  | some r=>(r.1,r.2,0)
  | none=>(gN,[],3)
section
variable {Q:Qd} {an:List iK} {l:List Ev} {e:Ev} {k:Nat}
theorem PI (h:l[k]? =some e) (h0:(jF Q e).2.2.2=0) (h1:(jF Q e).2.2.1=true):gP Q an (l.drop k)=gP (jF Q e).1 (an++[(jF Q e).2.1]) (l.drop (k+1)):=by
 obtain ⟨hk,hm⟩:=List.getElem?_eq_some_iff.1 h;rw [List.drop_eq_getElem_cons hk,hm,gP,if_pos ⟨h0,h1⟩]
theorem PK (h:l[k]? =some e) (h0: ¬ ((jF Q e).2.2.2=0∧(jF Q e).2.2.1=true)):gP Q an (l.drop k)=none:=by
 obtain ⟨hk,hm⟩:=List.getElem?_eq_some_iff.1 h;rw [List.drop_eq_getElem_cons hk,hm,gP,if_neg h0]
theorem Td (h:l.length≤k):gP Q an (l.drop k)=some (Q,an):=by
 rw [List.drop_eq_nil_of_le h];rfl
theorem Kc (h:2000<l.length):aV l=(gN,[],1):=if_pos h
theorem BZ {r:Qd×List iK} (h: ¬ 2000<l.length) (h1:gP gN [] l=some r):aV l=(r.1,r.2,0):=by
 unfold aV;rw [if_neg h,h1]
theorem Gg (h: ¬ 2000<l.length) (h1:gP gN [] l=none):aV l=(gN,[],3):=by
 unfold aV;rw [if_neg h,h1]
theorem dY (h:(aV l).2.2=0):l.length≤2000:=by
 unfold aV at h
 split at h
 ·cases h
 omega
theorem aa3:(stepM Q e).1.ready.length+(stepM Q e).1.bC.length≤Q.ready.length+Q.bC.length+1:=by
 unfold stepM
 split
 ·unfold Dn;split; · dsimp only;omega
  split; · dsimp only;omega
  split; · dsimp only;omega
  simp only [List.length_append,List.length_cons,List.length_nil];omega
 split
 ·obtain ⟨ep,nx,gv,rs,ls,W⟩:=Q
  cases rs with
  | nil=>simp [JL]
  | cons m r=>simp only [JL];split<;>simp<;>omega
 split
 ·unfold Ic;split; · dsimp only;omega
  split; · dsimp only;omega
  have:=List.length_filter_le (fun x:Ls=>decide (x.hno≠e.hno)) Q.bC;simp only;omega
 unfold Q6;split; · dsimp only;omega
 have h:=(Dy Q.bC Q.ready).length_eq;rw [List.length_append,List.length_map] at h;simp only [List.length_nil];omega
theorem ZF (h:(jF Q e).2.2.2=0):(jF Q e).1.ready.length+(jF Q e).1.bC.length≤501:=by
 by_cases h0:Q.fault=0
 ·by_cases h1:bE e=0
  ·rw [Mk h0 h1];have h2:=(UO h0).1;unfold Q5 at h2;have:=aa3 (Q:=Q) (e:=e);simp only;omega
  rw [agx h0 h1];simp [gN]
 rw [agw h0];simp [gN]
theorem AJ: ∀ {l:List Ev} {Q:Qd} {an:List iK} {r:Qd×List iK},Q.ready.length+Q.bC.length≤501→gP Q an l=some r→r.1.ready.length+r.1.bC.length≤501∧r.2.length=an.length+l.length
 | [],Q,an,r,hQ,h=>by
  simp only [gP,Option.some.injEq] at h;subst h;exact ⟨hQ,by simp⟩
 | e::l,Q,an,r,hQ,h=>by
  rw [gP] at h
  split at h
  ·rename_i hc
   obtain ⟨h1,h2⟩:=AJ (ZF hc.1) h;exact ⟨h1,by rw [h2];simp;omega⟩
  cases h
theorem Te:(aV l).1.ready.length+(aV l).1.bC.length≤501:=by
 unfold aV
 split
 ·simp [gN]
 split
 ·rename_i r hr
  exact (AJ (by simp [gN]) hr).1
 simp [gN]
end
structure bO where
 role:Int
 ep:Int
 fr:Int
 tg:Int
 rd:Int
 evs:List Ev
 deriving DecidableEq
def bD:bO:=⟨0,0,0,0,0,[]⟩
def bU:Ev:=⟨4,0,0,0,0,0⟩
def bn (b:bO):Prop:=(b.role=0∧0≤b.ep∧b.ep≤1048576∧b.fr=0∧b.tg=0∧b.rd=0∧b.evs.length=0)∨(1≤b.ep∧b.ep≤1048576∧
 ((b.role=1∧b.fr=0∧b.tg=0∧b.rd=0)∨(b.role=2∧b.fr=0∧0≤b.tg∧b.tg<5∧0≤b.rd∧b.rd≤4)∨(b.role=3∧b.fr=0∧0≤b.tg∧b.tg<5∧b.rd=0)∨(b.role=4∧0≤b.fr∧b.fr<5∧b.tg=0∧b.rd=0)))
instance (b:bO):Decidable (bn b):=by unfold bn;exact inferInstance
open Classical in
noncomputable def au (b:bO):Int:=if bn b∧(aV b.evs).2.2=0 then 0 else 6
section
variable {b:bO}
theorem lI (h:bn b) (h1:(aV b.evs).2.2=0):au b=0:=if_pos ⟨h,h1⟩
theorem Gi (h: ¬ bn b):au b=6:=if_neg fun h1=>h h1.1
theorem K3 (h: ¬ (aV b.evs).2.2=0):au b=6:=if_neg fun h1=>h h1.2
theorem dJ (h:au b=0):bn b∧(aV b.evs).2.2=0:=by
 unfold au at h
 split at h
 ·assumption
 cases h
end
noncomputable def gQ (b:bO) (e:Ev):bO×iK×Bool×Int:=
 if au b≠0 then (bD,gF,false,au b) else if bE e≠0 then (bD,gF,false,bE e) else if e.kind=4 then (bD,gF,false,3)
 else if b.role=3 then (b,qD 12,false,0) else if b.role≠1∧b.role≠2 then (b,qD 7,false,0)
 else if (jF (aV b.evs).1 e).2.2.1=false then (b,(jF (aV b.evs).1 e).2.1,false,0)
 else if 1999≤b.evs.length then (b,qD 14,false,0) else ({ b with evs:=b.evs++[e] },(jF (aV b.evs).1 e).2.1,true,0)
noncomputable def iB (b:bO) (ep:Int):bO×Int:=
 if au b≠0 then (bD,au b) else if ¬ (1≤ep∧ep≤1048576) then (bD,2) else if b.role≠0 then (bD,8) else if ep≤b.ep then (bD,15) else (⟨1,ep,0,0,0,[]⟩,0)
noncomputable def xW (b:bO) (tg:Int):bO×Int:=
 if au b≠0 then (bD,au b) else if ¬ (0≤tg∧tg≤4) then (bD,2) else if b.role=2∨b.role=3 then (bD,12) else if b.role≠1 then (bD,7)
 else if b.ep=1048576 then (bD,14) else (⟨2,b.ep,0,tg,0,b.evs⟩,0)
noncomputable def bF (b:bO) (hv:Int):bO×Int:=
 if au b≠0 then (bD,au b) else if b.role≠2∧b.role≠3 then (bD,7) else if ¬ (0≤hv∧hv≤b.evs.length) then (bD,2)
 else if b.role=3 then (b,0) else if hv=b.evs.length∨b.rd=4 then ({ b with role:=3,rd:=0 },0) else ({ b with rd:=b.rd+1 },0)
noncomputable def iT (b:bO) (hv:Int):List Ev×Bool×Int:=
 if au b≠0 then ([],false,au b) else if b.role≠2∧b.role≠3 then ([],false,7) else if ¬ (0≤hv∧hv≤b.evs.length) then ([],false,2)
 else ((b.evs.drop hv.toNat).take 3,decide (b.role=3∧b.evs.length≤hv.toNat+3),0)
noncomputable def dn (b:bO) (ep fr:Int):bO×Int:=
 if au b≠0 then (bD,au b) else if ¬ (1≤ep∧ep≤1048576∧0≤fr∧fr≤4) then (bD,2) else if b.role≠0∧b.role≠4 then (bD,8)
 else if b.role=4∧b.ep=ep∧b.fr=fr then (b,0) else if ep≤b.ep then (bD,15) else (⟨4,ep,fr,0,0,[]⟩,0)
noncomputable def cB (b:bO) (ep at_:Int) (l:List Ev) (last:Bool):bO×Int:=
 if au b≠0 then (bD,au b) else if b.role≠4 then (bD,7) else if b.ep≠ep then (bD,15) else if ¬ (0≤at_∧at_≤b.evs.length) then (bD,2)
 else if ¬ (b.evs.drop at_.toNat).take l.length=l.take (b.evs.length-at_.toNat) then (bD,3)
 else if last=true∧at_.toNat+l.length<b.evs.length then (bD,3)
 else if au (if last=true then ⟨1,ep,0,0,0,b.evs++l.drop (b.evs.length-at_.toNat)++[bU]⟩ else { b with evs:=b.evs++l.drop (b.evs.length-at_.toNat) })≠0 then (bD,3)
 else (if last=true then ⟨1,ep,0,0,0,b.evs++l.drop (b.evs.length-at_.toNat)++[bU]⟩ else { b with evs:=b.evs++l.drop (b.evs.length-at_.toNat) },0)
noncomputable def fB (b:bO) (ep:Int):bO×Int:=
 if au b≠0 then (bD,au b) else if b.role≠3 then (bD,7) else if ep≤b.ep then (bD,15) else (⟨0,b.ep,0,0,0,[]⟩,0)
noncomputable def eO (b:bO):bO×Int:=
 if au b≠0 then (bD,au b) else if b.role≠1∧b.role≠2 then (b,0)
 else if au ⟨1,b.ep,0,0,0,b.evs++[bU]⟩≠0 then (bD,14) else (⟨1,b.ep,0,0,0,b.evs++[bU]⟩,0)
theorem jO {α:Type} {a b:α} (h:a=b:=by (repeat' (first | rfl | omega | split))<;>(simp only [Prod.mk.injEq,bO.mk.injEq,and_true,true_and,and_self];omega)):a=b:=h
theorem WH {B g k c1 c2:Nat} {w0 w:World} {fs:List Fact} {A1 A2:Option Addr} {rs:List fP} {ls:List Ls} {W:jP} {ep nx gv kd id bd he hn:Int} (S:St B w0 w (.blk g (bV ep nx gv (.slice A1 rs.length c1) (.slice A2 ls.length c2) W) 142:: .own 88 2 (.slice A1 rs.length c1) rs.length ((rs).flatMap fP.cells):: .own 90 4 (.slice A2 ls.length c2) ls.length ((ls).flatMap Ls.cells)::fs)) (hk:k<4) (hlen:rs.length+ls.length≤500) (hnx:0≤nx∧nx≤1073741824) (hgv:0≤gv∧gv≤1073741824) (gG:0≤ep∧ep≤1048576) (hA:xu rs) (hN:(yF rs ls).Nodup):
    Calls Tryz.prog 59 #[pV g 0,.agg #[iV kd,iV ((k:Nat):Int),iV id,iV bd,iV he,iV hn]] w (BM B w0 g fs (Q6 ⟨ep,nx,gv,rs,ls,W⟩)):=by
 refine fE 63 Tryz.func59 ?_;refine cw [0,1] ?_;iterate 2 refine zQ ?_
 refine gD S ?_;intro b1 w2 S3;refine eU S3 rz ?_;intro b4 w5 S6;iterate 10 refine zQ ?_
 refine vv (aj rfl rfl (aA Tryz.underlying3 rfl (St.cl 2 S6 rfl vS))) ?_;by_cases h1:ep=1048576
 ·iterate 6 refine zQ ?_
  refine vv (v:= .agg #[iV 14,iV 0,iV 0,iV 0]) gZ ?_;refine sa 0 S6 dh ?_;intro w7 S8;iterate 6 refine zQ ?_
  have S9:=S8.aR [1,0];have jE:=S9.aZ 1 rfl;have jQ:=jE.aZ 2 rfl;rw [aaR h1];refine ⟨rfl,A1,c1,A2,c2,?_⟩;dsimp only;exact jQ
 iterate 13 refine zQ ?_
 refine vv (aj rfl rfl (aA Tryz.underlying51 rfl (St.cl 2 S6 rfl rA))) ?_;iterate 5 refine zQ ?_
 refine fH (X:=Nat×(Option Addr)×Nat) (fun xv=>[(0,pV g 0),(4,pV b4 0),(5,.bool false),(19,.slice A2 ls.length c2),(20,iV ((ls.length:Nat):Int)),(21,iV ((xv.1:Nat):Int))]) (fun xv wr=>(xv.1≤ls.length)∧St B w0 wr ((.blk b4 #[iV 0,iV 0,iV 0,iV 0] 79)::(.blk b1 #[iV kd,iV ((k:Nat):Int),iV id,iV bd,iV he,iV hn] 75)::(.blk g (bV ep nx gv (.slice xv.2.1 (rs.length+xv.1) xv.2.2) (.slice A2 ls.length c2) W) 142)::(.own 88 2 (.slice xv.2.1 (rs.length+xv.1) xv.2.2) (rs.length+xv.1) ((rs++(ls.take xv.1).map (·.msg)).flatMap fP.cells))::(.own 90 4 (.slice A2 ls.length c2) ls.length ((ls).flatMap Ls.cells))::fs)) (fun xv=>ls.length-xv.1) (0,A1,c1) ?_ ?_ ?_
 ·exact ⟨Nat.zero_le _,by dsimp only;rw [show rs++(ls.take 0).map (·.msg)=rs by simp];exact S6⟩
 ·exact ⟨rfl,rfl,rfl,rfl,rfl,rfl,trivial⟩
 rintro ⟨q,Ab,cb⟩ Qr ⟨Ik,qK⟩
 try dsimp only at Ik qK
 refine bq (l':=[(0,pV g 0),(4,pV b4 0),(5,.bool false),(19,.slice A2 ls.length c2),(20,iV ((ls.length:Nat):Int)),(21,iV ((q:Nat):Int))]) ⟨rfl,rfl,rfl,rfl,rfl,rfl,trivial⟩ (aW (aO ?_));by_cases V3:((q:Nat):Int)< ((ls.length:Nat):Int)
 ·iterate 11 refine zQ ?_
  obtain ⟨b16,o17,rfl⟩:=Rd.addr (St.ord 4 qK rfl) (by omega);obtain ⟨x18,BS⟩:=FK q (St.ord 4 qK rfl) (by omega);refine vv (gM q) ?_;refine vv (aj rfl rfl (aG (cs:=Ls.cells x18) Tryz.underlying90 rfl EB rfl (Rd.uN (St.ord 4 qK rfl) (fun _ _ h=>bS (enc:=Ls.cells) (sz:=4) (fun _=>rfl) BS h)))) ?_;refine eU qK alV ?_;intro b20 Bh ig;refine sa 0 ig EB ?_;intro JZ jB;iterate 2 refine zQ ?_
  have iX:=jB.drew;refine fG 14 10 iX [4] ?_;iterate 5 refine iP ?_
  refine gk (v:= .slice Ab (rs.length+q) cb) 5 rfl (St.del 4 iX) (fun _ WI=>(aj rfl rfl (aA Tryz.underlying50 rfl (St.cl 3 WI rfl nX)))) ?_;refine iP ?_;refine gk (v:= .agg #[iV x18.msg.no,iV x18.msg.body]) 7 rfl (St.del 4 iX) (fun _ VW=>(aj rfl rfl (aG (cs:=[iV x18.msg.no,iV x18.msg.body]) Tryz.underlying88 rfl Cu rfl (St.rg 0 VW rfl (mR (x:=2) (m:=2) rfl))))) ?_;refine gW (m:=5) (r:=8) (by kernel_rfl) ?_;refine kS (i:=8) rfl rfl (V:=fun b=> .slice (aD b 0) 1 1) (row:= #[iV x18.msg.no,iV x18.msg.body]) (t:=88) iX (wn rfl) rfl rfl (aK (vs:=[(0,.agg #[iV x18.msg.no,iV x18.msg.body])]) rfl ⟨rfl,rfl,trivial⟩ (by kernel_rfl)) ?_;intro b34 VO nL;refine iP ?_;refine gW (m:=4) (r:=9) (by kernel_rfl) ?_;refine jW (i:=9) rfl rfl (news:=[iV x18.msg.no,iV x18.msg.body]) (xs':=(rs++(ls.take (q+1)).map (·.msg)).flatMap fP.cells) 5 nL (wn rfl) rfl rfl rfl rfl rfl rfl (St.iG (xs:=[iV x18.msg.no,iV x18.msg.body]) 0 nL rfl rfl rfl) Tryz.underlying50 Qk rfl (by decide) (bZ rfl) (by simp only [maxLen];omega) (by omega) (jZ (enc:=fP.cells) (by rw [List.append_assoc,Gf (f:=fun x:Ls=>x.msg) BS]) rfl) ?_;intro Ml Mq w39 aCM aCN vV;refine iP ?_;refine eF (by kernel_rfl) rfl rfl rfl ?_;iterate 3 refine zQ ?_
  refine iU 4 vV LM ?_ (hs:=by exact ET);intro w43 Ar;refine zQ ?_;refine je ?_;iterate 3 refine zQ ?_
  refine vv (v:=iV ((q+1:Nat):Int)) jv ?_;iterate 2 refine zQ ?_
  have mW:=Ar.aR [1,0];refine bY (q+1,Ml,Mq) ?_ ⟨rfl,rfl,rfl,rfl,rfl,rfl,trivial⟩ (by first | omega | (dsimp only;omega));exact ⟨(by dsimp only;omega),mW⟩
 iterate 12 refine zQ ?_
 obtain rfl:q=ls.length:=by omega
 have qj:=qK;rw [List.take_length] at qj;iterate 4 refine zQ ?_
 refine vv (aj rfl rfl (aA Tryz.underlying50 rfl (St.cl 2 qj rfl nX))) ?_;have hml:(rs++ls.map (·.msg)).length=rs.length+ls.length:=by simp
 have HS:=fun A c w (ho:World.ownsRow w B 88 2 (.slice A (rs++ls.map (·.msg)).length c) (rs++ls.map (·.msg)).length ((rs++ls.map (·.msg)).flatMap fP.cells))=>PG A c (rs++ls.map (·.msg)) w ho (by omega)
 rw [hml] at HS;refine dO asN (HS Ab cb _ (qj.own 3 rfl)) ?_;rintro _ w47 ⟨rfl,d49,amx,auw,amy,amA⟩;refine ⟨_,rfl,?_⟩;have qX:=qj.append 3 rfl amA amy (.inl rfl);have hdl:=aa2 amx auw hA hN;clear HS amy amA qj;iterate 8 refine zQ ?_
 refine iU 2 qX LP ?_ (hs:=by exact EU);intro w54 xk;iterate 8 refine zQ ?_
 refine vv (aj rfl rfl (aA Tryz.underlying3 rfl (St.cl 2 xk rfl vS))) ?_;refine vv (v:=iV (ep+1)) jv ?_;iterate 3 refine zQ ?_
 refine iU 2 xk fM ?_ (hs:=by exact aeI);intro w56 sF;iterate 8 refine zQ ?_
 refine iU 2 sF fM ?_ (hs:=by exact Uv);intro ZG uQ;iterate 5 refine zQ ?_
 refine sa 0 uQ dh ?_;intro Qx Au;iterate 5 refine zQ ?_
 have FV:=Au.aR [1,0];have uO:=FV.aZ 1 rfl;have S64:=uO.seal 2 rfl Rd.none_ (fun (a:Addr) (h:(none:Option Addr)=some a)=>by cases h);have hln:d49.length=rs.length+ls.length:=by rw [amx.length_eq,hml]
 rw [akl h1,←hdl];refine ⟨rfl,Ab,cb,none,0,?_⟩;dsimp only;rw [hln];exact S64
end Go.Proofs.YtbffmhpkenoogaaGreatDoor
