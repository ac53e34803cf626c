import Derived.Shelf.SlicesG.Cmp
import Derived.Shelf.SlGeneric
import Derived.Ground.SlsfProg
import Derived.Ground.SlgcProg
import Derived.Test.YtbffmhpkenoogaaGreatDoorG11008
import Derived.Test.YtbffmhpkenoogaaGreatDoorG7392c
import Derived.Test.YtbffmhpkenoogaaGreatDoorGda7ad
set_option maxRecDepth 100000
set_option maxHeartbeats 8000000
namespace Go.Proofs.YtbffmhpkenoogaaGreatDoor
section
section
open Go.Shelf Go.RowKit Go.Lib Go.Sort
def Rs:Go.Shelf.Ren:=⟨λ| 6=>91 | 15=>116 | 14=>115 | 28=>144 | 29=>145 | 20=>136 | 21=>137 | 22=>138 | 23=>139 | 24=>140 | 25=>141 | 26=>142 | 27=>143 | 46=>174 | 47=>175 | 48=>176 | 49=>177 | 50=>178 | 57=>184 | n=>n,λ| 22=>50 | 24=>88 | 25=>197 | 3=>3 | 39=>228 | 0=>0 | 53=>250 | 55=>252 | 4=>4 | 46=>244 | 45=>243 | 50=>45 | 5=>5 | 9=>9 | 66=>269 | 70=>162 | 76=>279 | 77=>153 | n=>n,λ| n=>n⟩
theorem WU:Go.Proofs.SlLaysF0.n6 Tryz.prog Rs:={
 mixed:=by kernel_rfl
 f6:=⟨Tryz.f91.name,by decide,Tryz.func91.trans (congrArg some (by kernel_rfl))⟩
 f14:=⟨Tryz.f115.name,by decide,Tryz.func115.trans (congrArg some (by kernel_rfl))⟩
 f15:=Tryz.func116.trans (congrArg some (by kernel_rfl))
 f20:=⟨Tryz.f136.name,by decide,Tryz.func136.trans (congrArg some (by kernel_rfl))⟩
 f21:=⟨Tryz.f137.name,by decide,Tryz.func137.trans (congrArg some (by kernel_rfl))⟩
 f22:=⟨Tryz.f138.name,by decide,Tryz.func138.trans (congrArg some (by kernel_rfl))⟩
 f23:=⟨Tryz.f139.name,by decide,Tryz.func139.trans (congrArg some (by kernel_rfl))⟩
 f24:=⟨Tryz.f140.name,by decide,Tryz.func140.trans (congrArg some (by kernel_rfl))⟩
 f25:=⟨Tryz.f141.name,by decide,Tryz.func141.trans (congrArg some (by kernel_rfl))⟩
 f26:=⟨Tryz.f142.name,by decide,Tryz.func142.trans (congrArg some (by kernel_rfl))⟩
 f27:=⟨Tryz.f143.name,by decide,Tryz.func143.trans (congrArg some (by kernel_rfl))⟩
 f28:=Tryz.func144.trans (congrArg some (by kernel_rfl))
 f29:=Tryz.func145.trans (congrArg some (by kernel_rfl))
 f46:=⟨Tryz.f174.name,by decide,Tryz.func174.trans (congrArg some (by kernel_rfl))⟩
 f47:=Tryz.func175.trans (congrArg some (by kernel_rfl))
 f48:=Tryz.func176.trans (congrArg some (by kernel_rfl))
 f49:=⟨Tryz.f177.name,by decide,Tryz.func177.trans (congrArg some (by kernel_rfl))⟩
 f50:=⟨Tryz.f178.name,by decide,Tryz.func178.trans (congrArg some (by kernel_rfl))⟩
 f57:=⟨Tryz.f184.name,by decide,Tryz.func184.trans (congrArg some (by kernel_rfl))⟩
 t0:=Tryz.underlying0
 a0:=Tryz.isAgg0
 z0:=Tryz.sizeOf0
 v0:=Tryz.zeroValue0
 t3:=Tryz.underlying3
 a3:=Tryz.isAgg3
 z3:=Tryz.sizeOf3
 v3:=Tryz.zeroValue3
 t4:=Tryz.underlying4
 a4:=Tryz.isAgg4
 z4:=Tryz.sizeOf4
 v4:=Tryz.zeroValue4
 t5:=Tryz.underlying5
 a5:=Tryz.isAgg5
 z5:=Tryz.sizeOf5
 v5:=Tryz.zeroValue5
 t9:=Tryz.underlying9
 a9:=Tryz.isAgg9
 z9:=Tryz.sizeOf9
 v9:=Tryz.zeroValue9
 t22:=Tryz.underlying50
 a22:=Tryz.isAgg50
 z22:=Tryz.sizeOf50
 v22:=Tryz.zeroValue50
 t25:=Tryz.underlying197
 a25:=Tryz.isAgg197
 z25:=Tryz.sizeOf197
 v25:=Tryz.zeroValue197
 t39:=Tryz.underlying228
 a39:=Tryz.isAgg228
 z39:=Tryz.sizeOf228
 v39:=Tryz.zeroValue228
 t45:=Tryz.underlying243
 a45:=Tryz.isAgg243
 z45:=Tryz.sizeOf243
 v45:=Tryz.zeroValue243
 t46:=Tryz.underlying244
 a46:=Tryz.isAgg244
 z46:=Tryz.sizeOf244
 v46:=Tryz.zeroValue244
 t50:=Tryz.underlying45
 a50:=Tryz.isAgg45
 z50:=Tryz.sizeOf45
 v50:=Tryz.zeroValue45
 t53:=Tryz.underlying250
 a53:=Tryz.isAgg250
 z53:=Tryz.sizeOf250
 v53:=Tryz.zeroValue250
 t55:=Tryz.underlying252
 a55:=Tryz.isAgg252
 z55:=Tryz.sizeOf252
 v55:=Tryz.zeroValue252
 t66:=Tryz.underlying269
 a66:=Tryz.isAgg269
 z66:=Tryz.sizeOf269
 v66:=Tryz.zeroValue269
 t70:=Tryz.underlying162
 a70:=Tryz.isAgg162
 z70:=Tryz.sizeOf162
 v70:=Tryz.zeroValue162
 t76:=Tryz.underlying279
 a76:=Tryz.isAgg279
 z76:=Tryz.sizeOf279
 v76:=Tryz.zeroValue279
 t77:=Tryz.underlying153
 a77:=Tryz.isAgg153
 z77:=Tryz.sizeOf153
 v77:=Tryz.zeroValue153 }
def Vd:Go.Shelf.Ren:=⟨λ| 5=>117 | 7=>146 | n=>n,λ| 22=>3 | 3=>3 | 4=>4 | n=>n,λ| n=>n⟩
theorem ali:Go.Proofs.SlLaysC2.n5 Tryz.prog Vd:={
 mixed:=by kernel_rfl
 f5:=⟨Tryz.f117.name,by decide,Tryz.func117.trans (congrArg some (by kernel_rfl))⟩
 f7:=⟨Tryz.f146.name,by decide,Tryz.func146.trans (congrArg some (by kernel_rfl))⟩
 t3:=Tryz.underlying3
 a3:=Tryz.isAgg3
 z3:=Tryz.sizeOf3
 v3:=Tryz.zeroValue3
 t4:=Tryz.underlying4
 a4:=Tryz.isAgg4
 z4:=Tryz.sizeOf4
 v4:=Tryz.zeroValue4
 t22:=Tryz.underlying3
 a22:=Tryz.isAgg3
 z22:=Tryz.sizeOf3
 v22:=Tryz.zeroValue3 }
end
open Go.Shelf
open ChangeShapes WideShapes ChangeAt RowKit
open Go.Sort (HoldsK PermIn SortedIn SWO grow)
instance:Inhabited fJ:=⟨⟨0,0⟩⟩
def Kl (x y:fJ):Int:=Lib.compareInt x.no y.no
theorem aed (x y:fJ):ltOf Kl x y=decide (x.no<y.no):=by
 unfold ltOf Kl Lib.compareInt;by_cases h1:x.no<y.no
 ·simp [h1]
 by_cases h2:y.no<x.no<;>simp [h1,h2]
theorem apD:SWO (ltOf Kl) where
 irrefl x:=by rw [aed];simp
 trans x y z h1 h2:=by rw [aed] at*;simp at*;omega
 ntrans x y z h1 h2:=by rw [aed] at*;simp at*;omega
theorem Ve (x y:fJ) (W:World):Calls Tryz.prog 92 #[.agg #[.int .i64 x.no,.int .i64 x.body],.agg #[.int .i64 y.no,.int .i64 y.body]] W λe w'=>e= .returned (.int .i64 (Kl x y))/\ ∃ q os',w'=grow (W.drewN q) os':=by
 have hcon:=λW'=>AnyG.cmp_Compare_int ali x.no y.no W';change ∀ W',Calls Tryz.prog 117 _ _ _ at hcon;unfold Kl;generalize Lib.compareInt x.no y.no=r at hcon⊢
 go_enter Tryz.func92,Tryz.ntmps92
 go_wp2_with (go_at_call 117;refine (hcon _).mono ?_;rintro e w' ⟨rfl,rfl⟩)
 go_ret
 exact ⟨rfl,0,_,by rw [Go.Sort.alloc_eq_grow,Go.Sort.alloc_eq_grow,Go.Sort.grow_grow];rfl⟩
theorem alj: ∀ w,(isAgg 88).run Tryz.prog w= .ok true w:=by
 intro w;simp [isAgg,run_underlying Tryz.underlying88,Sem.run_bind,Result.andThen]
theorem agc: ∀ w,(Go.sizeOf 88).run Tryz.prog w= .ok 2 w:=by
 intro w;obtain ⟨z,hq,hs⟩: ∃ z,Tryz.prog.info? 88=some z/\z.size=2:=by
  have h:=DX
  cases hi:Tryz.prog.info? 88 with
  | none=>simp [hi] at h
  | some z=>exact ⟨z,rfl,by simpa [hi] using h⟩
 simp [sizeOf,typeInfo,hq,hs,Sem.run_bind,Result.andThen]
def qC (l:List fJ):Prop:=l.Pairwise λa b=>a.no<=b.no
theorem Rt (A:Option Addr) (c:Nat) (rs:List fJ) (w:World) {B:Nat} (ho:w.ownsRow B 88 2 (.slice A rs.length c) rs.length (rs.flatMap fJ.cells)) (hl:rs.length<=1000000):
  Calls Tryz.prog 91 #[.slice A rs.length c,.func (.func 92) #[] #[]] w λe w'=>e= .returned (.tuple #[])/\ ∃ d:List fJ,d.Perm rs/\qC d/\
   w'.ownsRow B 88 2 (.slice A rs.length c) rs.length (d.flatMap fJ.cells)/\w.grownBy w' (Value.slice A rs.length c).ownBlock:=by
 rcases Nat.eq_zero_or_pos rs.length with h0 | h0
 ·have e0:rs=[]:=List.length_eq_zero_iff.1 h0;subst e0;refine (AnyF.slices_SortFunc_none WU A c (.func (.func 92) #[] #[]) w).mono ?_;rintro e w' ⟨rfl,rfl⟩;exact ⟨rfl,[],List.Perm.refl _,List.Pairwise.nil,ho,⟨rfl,rfl,rfl,Nat.le_refl _,λ_ _ _=>rfl⟩⟩
 obtain ⟨g,rfl⟩:=C9 ho h0;have hg:g<w.heap.size:=CS ho g rfl;have hH:=Yh (enc:=fJ.cells) (k:=2) (λ_=>rfl) ho rfl;have hcon:=AnyQ.slices_SortFunc WU 2 alj agc fJ.cells (λ_=>rfl) (λx v hv=>by simp [fJ.cells] at hv;rcases hv with rfl | rfl<;>rfl) Kl apD 92 #[] g 0 c rs.toArray w arC (λ_ _ _ _ x y=>Ve x y _) hH hg (by simp;omega);change Calls Tryz.prog 91 _ _ _ at hcon;rw [List.size_toArray] at hcon;refine hcon.mono ?_;rintro e w' ⟨rfl,d',m,os,hp,hs,rfl⟩;obtain ⟨p1,_,p3⟩:=hp
 replace p1:d'.size=rs.length:=p1
 obtain ⟨q1,q2⟩:=U5 (enc:=fJ.cells) (k:=2) (d':=d') (m:=m) (os:=os) (λ_=>rfl) ho p1;refine ⟨rfl,d'.toList,?_,?_,q1,q2⟩
 ·have e1:d'.extract 0 rs.length=d':=by rw [<-p1];exact Array.extract_size
  have e2:rs.toArray.extract 0 rs.length=rs.toArray:=by simp
  rw [e1,e2] at p3;simpa using p3
 unfold qC;rw [List.pairwise_iff_getElem];intro i j hi hj hij;rw [Array.length_toList] at hi hj;have h:=hs i j (Nat.zero_le _) hij (by omega);rw [aed,getElem!_pos d' j hj,getElem!_pos d' i hi] at h;simp only [Array.getElem_toList];simpa using h
theorem zO (m:fJ): ∀ l:List fJ,(jF m l).Perm (m::l)
 | []=>List.Perm.refl _
 | x::l=>by
  unfold jF
  split
  ·exact List.Perm.refl _
  exact ((zO m l).cons x).trans (List.Perm.swap m x l)
theorem Jr {m:fJ}: ∀ {l:List fJ},qC l->qC (jF m l)
 | [],_=>by simp [jF,qC]
 | x::l,h=>by
  obtain ⟨h1,h2⟩:=List.pairwise_cons.1 h;unfold jF
  split
  ·rename_i hlt
   refine List.pairwise_cons.2 ⟨λy hy=>?_,h⟩
   rcases List.mem_cons.1 hy with e | e
   ·rw [e];omega
   have:=h1 y e;omega
  rename_i hlt
  refine List.pairwise_cons.2 ⟨λy hy=>?_,Jr h2⟩
  rcases List.mem_cons.1 ((zO m l).mem_iff.1 hy) with e | e
  ·rw [e];omega
  exact h1 y e
theorem ES: ∀ (ls:List Ls) (rs:List fJ),(ls.foldl (λl x=>jF x.msg l) rs).Perm (rs++ls.map (·.msg))
 | [],rs=>by simp
 | x::ls,rs=>by
  rw [List.foldl_cons,List.map_cons];refine (ES ls (jF x.msg rs)).trans ?_;refine ((zO x.msg rs).append_right _).trans ?_;rw [List.cons_append];exact List.perm_middle.symm
theorem PZ: ∀ (ls:List Ls) {rs:List fJ},qC rs->qC (ls.foldl (λl x=>jF x.msg l) rs)
 | [],_,h=>h
 | _::ls,_,h=>PZ ls (Jr h)
theorem acD {rs d:List fJ} {ls:List Ls} (hp:d.Perm (rs++ls.map (·.msg))) (ha:qC d) (hA:qC rs) (hN:(mV rs ls).Nodup):d=ls.foldl (λl x=>jF x.msg l) rs:=by
 have hF:=ES ls rs;have hnd:((rs++ls.map (·.msg)).map (·.no)).Nodup:=by
  unfold mV at hN;rw [List.map_append,List.map_map];exact hN
 refine List.Perm.eq_of_pairwise (le:=λa b:fJ=>a.no<=b.no) (λa b ha' hb' h1 h2=>?_) ha (PZ ls hA) (hp.trans hF.symm);have m1:=hp.mem_iff.1 ha';have m2:=hF.mem_iff.1 hb';have e:a.no=b.no:=by omega
 have:=List.pairwise_map.1 hnd;obtain ⟨i,hi,e1⟩:=List.getElem_of_mem m1;obtain ⟨j,hj,e2⟩:=List.getElem_of_mem m2;rw [List.pairwise_iff_getElem] at this
 rcases Nat.lt_trichotomy i j with h | h | h
 ·exact absurd (by rw [e1,e2];exact e) (this i j hi hj h)
 ·subst h;rw [<-e1,<-e2]
 exact absurd (by rw [e1,e2];exact e.symm) (this j i hj hi h)
end
section
open ChangeShapes WideShapes RowKit
def dP:Qd:=⟨0,0,0,[],[],jf⟩
def Qd.row (Q:Qd) (A1:Option Addr) (c1:Nat) (A2:Option Addr) (c2:Nat):Array Value:=cB Q.ep Q.nx Q.gv (.slice A1 Q.ready.length c1) (.slice A2 Q.bJ.length c2) Q.ws
noncomputable def Qd.fault (Q:Qd):Int:=fD Q.ep Q.nx Q.gv Q.ready Q.bJ Q.ws
def stepM (Q:Qd) (e:Ev):Qd×iM×Bool:=
 if e.kind=1 then Bd Q e.producer.toNat e.id e.body else if e.kind=2 then GD Q else if e.kind=3 then EJ Q e.aN e.hno else JZ Q
noncomputable def iD (Q:Qd) (e:Ev):Qd×iM×Bool×Int:=
 if Q.fault≠0 then (dP,eu,false,Q.fault) else if aZ e≠0 then (dP,eu,false,aZ e) else ((stepM Q e).1,(stepM Q e).2.1,(stepM Q e).2.2,0)
def agf (w:World) (r:Qd×iM×Bool×Int) (e:Ending) (w':World):Prop:= ∃ A1 c1 A2 c2,e= .returned (.tuple #[.agg (cB r.1.ep r.1.nx r.1.gv (.slice A1 r.1.ready.length c1) (.slice A2 r.1.bJ.length c2) r.1.ws),r.2.1.val,.bool r.2.2.1,.int .i64 r.2.2.2])/\
 St w.heap.size w w' [.bX 2 A1 r.1.ready.length (r.1.ready.flatMap fJ.cells),.bX 4 A2 r.1.bJ.length (r.1.bJ.flatMap Ls.cells)]
section
variable {ep nx gv p:Int} {rs:List fJ} {ls:List Ls} {W:jO}
theorem Nb (h:fD ep nx gv rs ls W=0):O4 ep nx gv rs ls/\yD W/\jD nx (-1) rs=true/\kM ep nx gv (-1) ls=true/\(mV rs ls).Nodup:=by
 unfold fD at h
 split at h
 ·cases h
 split at h
 ·cases h
 split at h
 ·rename_i h1 h2 h3
  exact ⟨Classical.not_not.1 h1,Classical.not_not.1 h2,h3⟩
 cases h
theorem abr: ∀ {rs:List fJ} {p:Int},jD nx p rs=true->(∀ x∈rs,p<x.no)/\rs.Pairwise λa b=>a.no<b.no
 | [],_,_=>⟨λx hx=>by simp at hx,List.Pairwise.nil⟩
 | m::r,p,h=>by
  simp only [jD,Bool.and_eq_true,decide_eq_true_eq] at h;obtain ⟨⟨_,h1⟩,h2⟩:=h;obtain ⟨h3,h4⟩:=abr h2;refine ⟨λx hx=>?_,List.pairwise_cons.2 ⟨h3,h4⟩⟩
  rcases List.mem_cons.1 hx with rfl | hx
  ·exact h1
  exact Int.lt_trans h1 (h3 x hx)
theorem agh (h:jD nx (-1) rs=true):qC rs:=(abr h).2.imp λh=>Int.le_of_lt h
theorem aaM: ∀ {ls:List Ls} {p:Int},kM ep nx gv p ls=true->(∀ x∈ls,x.eP=ep/\p<x.hno)/\ls.Pairwise λa b=>a.hno<b.hno
 | [],_,_=>⟨λx hx=>by simp at hx,List.Pairwise.nil⟩
 | m::r,p,h=>by
  simp only [kM,JY,Bool.and_eq_true,decide_eq_true_eq] at h;obtain ⟨⟨_,h0,h1,_⟩,h2⟩:=h;obtain ⟨h3,h4⟩:=aaM h2;refine ⟨λx hx=>?_,List.pairwise_cons.2 ⟨λx hx=>(h3 x hx).2,h4⟩⟩
  rcases List.mem_cons.1 hx with rfl | hx
  ·exact ⟨h0,h1⟩
  exact ⟨(h3 x hx).1,Int.lt_trans h1 (h3 x hx).2⟩
theorem alk (h:kM ep nx gv (-1) ls=true): ∀ x∈ls,x.eP=ep:=λx hx=>((aaM h).1 x hx).1
theorem alm (h:kM ep nx gv (-1) ls=true): ∀ (i j:Nat) (a b:Ls),ls[i]? =some a->ls[j]? =some b->a.hno=b.hno->i=j:=by
 have hp:=(aaM h).2;rw [List.pairwise_iff_getElem] at hp;intro i j a b ha hb e;obtain ⟨hi,rfl⟩:=List.getElem?_eq_some_iff.1 ha;obtain ⟨hj,rfl⟩:=List.getElem?_eq_some_iff.1 hb
 rcases Nat.lt_trichotomy i j with h1 | h1 | h1
 ·have:=hp i j hi hj h1;omega
 ·exact h1
 have:=hp j i hj hi h1;omega
theorem agi {e:Ev} (h:aZ e=0):1<=e.kind/\e.kind<=4:=by
 unfold aZ at h
 split at h
 ·cases h
 rename_i h1
 exact Classical.not_not.1 h1
theorem WV {e:Ev} (h:aZ e=0):0<=e.producer/\e.producer<=3:=by
 unfold aZ at h
 split at h
 ·cases h
 split at h
 ·cases h
 rename_i h1 h2
 split at h
 ·cases h
 split at h
 ·cases h
 rename_i h3 h4
 by_cases hk:e.kind=1
 ·have h5:=Classical.not_not.1 (λh6=>h2 ⟨hk,h6⟩);simp only [Bool.and_eq_true,jN,decide_eq_true_eq] at h5;omega
 have h5:=Classical.not_not.1 (λh6=>h4 ⟨hk,h6⟩);omega
end
section
variable {Q:Qd} {e:Ev}
theorem Oh (h:Q.fault≠0):iD Q e=(dP,eu,false,Q.fault):=if_pos h
theorem TF (h:Q.fault=0) (h1:aZ e≠0):iD Q e=(dP,eu,false,aZ e):=by
 unfold iD;rw [if_neg (λh2=>h2 h),if_pos h1]
theorem Bh (h:Q.fault=0) (h1:aZ e=0):iD Q e=((stepM Q e).1,(stepM Q e).2.1,(stepM Q e).2.2,0):=by
 unfold iD;rw [if_neg (λh2=>h2 h),if_neg (λh2=>h2 h1)]
end
noncomputable def gP:Qd->List iM->List Ev->Option (Qd×List iM)
 | Q,an,[]=>some (Q,an)
 | Q,an,e::r=>if (iD Q e).2.2.2=0/\(iD Q e).2.2.1=true then gP (iD Q e).1 (an++[(iD Q e).2.1]) r else none
noncomputable def aF (l:List Ev):Qd×List iM×Int:=
 if 2000<l.length then (dP,[],1) else match gP dP [] l with
  | some r=>(r.1,r.2,0)
  | none=>(dP,[],3)
section
variable {Q:Qd} {an:List iM} {l:List Ev} {e:Ev} {k:Nat}
theorem Ru (h:l[k]? =some e) (h0:(iD Q e).2.2.2=0) (h1:(iD Q e).2.2.1=true):gP Q an (l.drop k)=gP (iD Q e).1 (an++[(iD Q e).2.1]) (l.drop (k+1)):=by
 obtain ⟨hk,hm⟩:=List.getElem?_eq_some_iff.1 h;rw [List.drop_eq_getElem_cons hk,hm,gP,if_pos ⟨h0,h1⟩]
theorem Rv (h:l[k]? =some e) (h0: ¬ ((iD Q e).2.2.2=0/\(iD Q e).2.2.1=true)):gP Q an (l.drop k)=none:=by
 obtain ⟨hk,hm⟩:=List.getElem?_eq_some_iff.1 h;rw [List.drop_eq_getElem_cons hk,hm,gP,if_neg h0]
theorem Vf (h:l.length<=k):gP Q an (l.drop k)=some (Q,an):=by
 rw [List.drop_eq_nil_of_le h];rfl
theorem LP (h:2000<l.length):aF l=(dP,[],1):=if_pos h
theorem Dg {r:Qd×List iM} (h: ¬ 2000<l.length) (h1:gP dP [] l=some r):aF l=(r.1,r.2,0):=by
 unfold aF;rw [if_neg h,h1]
theorem Iy (h: ¬ 2000<l.length) (h1:gP dP [] l=none):aF l=(dP,[],3):=by
 unfold aF;rw [if_neg h,h1]
theorem fU (h:(aF l).2.2=0):l.length<=2000:=by
 unfold aF at h
 split at h
 ·cases h
 omega
theorem acE:(stepM Q e).1.ready.length+(stepM Q e).1.bJ.length<=Q.ready.length+Q.bJ.length+1:=by
 unfold stepM
 split
 ·unfold Bd;split; · dsimp only;omega
  split; · dsimp only;omega
  split; · dsimp only;omega
  simp only [List.length_append,List.length_cons,List.length_nil];omega
 split
 ·obtain ⟨ep,nx,gv,rs,ls,W⟩:=Q
  cases rs with
  | nil=>simp [GD]
  | cons m r=>simp only [GD];split<;>simp<;>omega
 split
 ·unfold EJ;split; · dsimp only;omega
  split; · dsimp only;omega
  have:=List.length_filter_le (λx:Ls=>decide (x.hno≠e.hno)) Q.bJ;simp only;omega
 unfold JZ;split; · dsimp only;omega
 have h:=(ES Q.bJ Q.ready).length_eq;rw [List.length_append,List.length_map] at h;simp only [List.length_nil];omega
theorem abt (h:(iD Q e).2.2.2=0):(iD Q e).1.ready.length+(iD Q e).1.bJ.length<=501:=by
 by_cases h0:Q.fault=0
 ·by_cases h1:aZ e=0
  ·rw [Bh h0 h1];have h2:=(Nb h0).1;unfold O4 at h2;have:=acE (Q:=Q) (e:=e);simp only;omega
  rw [TF h0 h1];simp [dP]
 rw [Oh h0];simp [dP]
theorem BQ: ∀ {l:List Ev} {Q:Qd} {an:List iM} {r:Qd×List iM},Q.ready.length+Q.bJ.length<=501->gP Q an l=some r->r.1.ready.length+r.1.bJ.length<=501/\r.2.length=an.length+l.length
 | [],Q,an,r,hQ,h=>by
  simp only [gP,Option.some.injEq] at h;subst h;exact ⟨hQ,by simp⟩
 | e::l,Q,an,r,hQ,h=>by
  rw [gP] at h
  split at h
  ·rename_i hc
   obtain ⟨h1,h2⟩:=BQ (abt hc.1) h;exact ⟨h1,by rw [h2];simp;omega⟩
  cases h
theorem Vg:(aF l).1.ready.length+(aF l).1.bJ.length<=501:=by
 unfold aF
 split
 ·simp [dP]
 split
 ·rename_i r hr
  exact (BQ (by simp [dP]) hr).1
 simp [dP]
end
structure bF where
 role:Int
 ep:Int
 fr:Int
 tg:Int
 rd:Int
 evs:List Ev
 deriving DecidableEq
def bG:bF:=⟨0,0,0,0,0,[]⟩
def aM:Ev:=⟨4,0,0,0,0,0⟩
def bg (b:bF):Prop:=(b.role=0/\0<=b.ep/\b.ep<=1048576/\b.fr=0/\b.tg=0/\b.rd=0/\b.evs.length=0)\/(1<=b.ep/\b.ep<=1048576/\
 ((b.role=1/\b.fr=0/\b.tg=0/\b.rd=0)\/(b.role=2/\b.fr=0/\0<=b.tg/\b.tg<5/\0<=b.rd/\b.rd<=4)\/(b.role=3/\b.fr=0/\0<=b.tg/\b.tg<5/\b.rd=0)\/(b.role=4/\0<=b.fr/\b.fr<5/\b.tg=0/\b.rd=0)))
instance (b:bF):Decidable (bg b):=by unfold bg;exact inferInstance
open Classical in
noncomputable def aj (b:bF):Int:=if bg b/\(aF b.evs).2.2=0 then 0 else 6
section
variable {b:bF}
theorem lU (h:bg b) (h1:(aF b.evs).2.2=0):aj b=0:=if_pos ⟨h,h1⟩
theorem Iz (h: ¬ bg b):aj b=6:=if_neg λh1=>h h1.1
theorem Nc (h: ¬ (aF b.evs).2.2=0):aj b=6:=if_neg λh1=>h h1.2
theorem dR (h:aj b=0):bg b/\(aF b.evs).2.2=0:=by
 unfold aj at h
 split at h
 ·assumption
 cases h
end
noncomputable def gq (b:bF) (e:Ev):bF×iM×Bool×Int:=
 if aj b≠0 then (bG,eu,false,aj b) else if aZ e≠0 then (bG,eu,false,aZ e) else if e.kind=4 then (bG,eu,false,3)
 else if b.role=3 then (b,ru 12,false,0) else if b.role≠1/\b.role≠2 then (b,ru 7,false,0)
 else if (iD (aF b.evs).1 e).2.2.1=false then (b,(iD (aF b.evs).1 e).2.1,false,0)
 else if 1999<=b.evs.length then (b,ru 14,false,0) else ({ b with evs:=b.evs++[e] },(iD (aF b.evs).1 e).2.1,true,0)
noncomputable def iL (b:bF) (ep:Int):bF×Int:=
 if aj b≠0 then (bG,aj b) else if ¬ (1<=ep/\ep<=1048576) then (bG,2) else if b.role≠0 then (bG,8) else if ep<=b.ep then (bG,15) else (⟨1,ep,0,0,0,[]⟩,0)
noncomputable def yY (b:bF) (tg:Int):bF×Int:=
 if aj b≠0 then (bG,aj b) else if ¬ (0<=tg/\tg<=4) then (bG,2) else if b.role=2\/b.role=3 then (bG,12) else if b.role≠1 then (bG,7)
 else if b.ep=1048576 then (bG,14) else (⟨2,b.ep,0,tg,0,b.evs⟩,0)
noncomputable def bK (b:bF) (hv:Int):bF×Int:=
 if aj b≠0 then (bG,aj b) else if b.role≠2/\b.role≠3 then (bG,7) else if ¬ (0<=hv/\hv<=b.evs.length) then (bG,2)
 else if b.role=3 then (b,0) else if hv=b.evs.length\/b.rd=4 then ({ b with role:=3,rd:=0 },0) else ({ b with rd:=b.rd+1 },0)
noncomputable def ig (b:bF) (hv:Int):List Ev×Bool×Int:=
 if aj b≠0 then ([],false,aj b) else if b.role≠2/\b.role≠3 then ([],false,7) else if ¬ (0<=hv/\hv<=b.evs.length) then ([],false,2)
 else ((b.evs.drop hv.toNat).take 3,decide (b.role=3/\b.evs.length<=hv.toNat+3),0)
noncomputable def dn (b:bF) (ep fr:Int):bF×Int:=
 if aj b≠0 then (bG,aj b) else if ¬ (1<=ep/\ep<=1048576/\0<=fr/\fr<=4) then (bG,2) else if b.role≠0/\b.role≠4 then (bG,8)
 else if b.role=4/\b.ep=ep/\b.fr=fr then (b,0) else if ep<=b.ep then (bG,15) else (⟨4,ep,fr,0,0,[]⟩,0)
noncomputable def cK (b:bF) (ep at_:Int) (l:List Ev) (last:Bool):bF×Int:=
 if aj b≠0 then (bG,aj b) else if b.role≠4 then (bG,7) else if b.ep≠ep then (bG,15) else if ¬ (0<=at_/\at_<=b.evs.length) then (bG,2)
 else if ¬ (b.evs.drop at_.toNat).take l.length=l.take (b.evs.length-at_.toNat) then (bG,3)
 else if last=true/\at_.toNat+l.length<b.evs.length then (bG,3)
 else if aj (if last=true then ⟨1,ep,0,0,0,b.evs++l.drop (b.evs.length-at_.toNat)++[aM]⟩ else { b with evs:=b.evs++l.drop (b.evs.length-at_.toNat) })≠0 then (bG,3)
 else (if last=true then ⟨1,ep,0,0,0,b.evs++l.drop (b.evs.length-at_.toNat)++[aM]⟩ else { b with evs:=b.evs++l.drop (b.evs.length-at_.toNat) },0)
noncomputable def fP (b:bF) (ep:Int):bF×Int:=
 if aj b≠0 then (bG,aj b) else if b.role≠3 then (bG,7) else if ep<=b.ep then (bG,15) else (⟨0,b.ep,0,0,0,[]⟩,0)
noncomputable def eF (b:bF):bF×Int:=
 if aj b≠0 then (bG,aj b) else if b.role≠1/\b.role≠2 then (b,0)
 else if aj ⟨1,b.ep,0,0,0,b.evs++[aM]⟩≠0 then (bG,14) else (⟨1,b.ep,0,0,0,b.evs++[aM]⟩,0)
theorem ko {α:Type} {a b:α} (h:a=b:=by (repeat' (first | rfl | omega | split))<;>(simp only [Prod.mk.injEq,bF.mk.injEq,and_true,true_and,and_self];omega)):a=b:=h
end
section
abbrev bR (b:bF) (A:Option Addr) (c:Nat):Array Value:= #[iV b.role,iV b.ep,iV b.fr,iV b.tg,iV b.rd,.slice A b.evs.length c]
abbrev zB:Array Value:= #[iV 0,iV 0,iV 0,iV 0,iV 0,.slice none 0 0]
abbrev rR (k q e p:Int) (x:Ev):Array Value:= #[iV k,iV q,iV e,iV p,iV x.kind,iV x.producer,iV x.id,iV x.body,iV x.aN,iV x.hno]
end
section
open ChangeShapes WideShapes RowKit
theorem Yt {B g k c1 c2:Nat} {w0 w:World} {fs:List Fact} {A1 A2:Option Addr} {rs:List fJ} {ls:List Ls} {W:jO} {ep nx gv kd id bd he hn:Int} (S:St B w0 w (.blk g (cB ep nx gv (.slice A1 rs.length c1) (.slice A2 ls.length c2) W) 142:: .own 88 2 (.slice A1 rs.length c1) rs.length ((rs).flatMap fJ.cells):: .own 90 4 (.slice A2 ls.length c2) ls.length ((ls).flatMap Ls.cells)::fs)) (hk:k<4) (hlen:rs.length+ls.length<=500) (hnx:0<=nx/\nx<=1073741824) (hgv:0<=gv/\gv<=1073741824) (eP:0<=ep/\ep<=1048576) (hA:qC rs) (hN:(mV rs ls).Nodup):
    Calls Tryz.prog 59 #[pV g 0,.agg #[iV kd,iV ((k:Nat):Int),iV id,iV bd,iV he,iV hn]] w (Da B w0 g fs (JZ ⟨ep,nx,gv,rs,ls,W⟩)):=by
 refine fZ 63 Tryz.func59 ?_;refine cw [0,1] ?_;refine zN 2 ?_;refine iC S ?_;intro b1 w2 S3;refine fI S3 rT ?_;intro b4 w5 S6;refine zN 10 ?_;refine vv (au rfl rfl (ay Tryz.underlying3 rfl (St.cl 2 S6 rfl wM))) ?_;by_cases h1:ep=1048576
 ·refine zN 6 ?_;refine vv (v:= .agg #[iV 14,iV 0,iV 0,iV 0]) fQ ?_;refine sa 0 S6 cZ ?_;intro w7 S8;refine zN 6 ?_;have S9:=S8.aR [1,0];have nU:=S9.bn 1 rfl;have qN:=nU.bn 2 rfl;rw [acu h1];refine ⟨rfl,A1,c1,A2,c2,?_⟩;dsimp only;exact qN
 refine zN 13 ?_;refine vv (au rfl rfl (ay Tryz.underlying51 rfl (St.cl 2 S6 rfl rU))) ?_;refine zN 5 ?_;refine fH (X:=Nat×(Option Addr)×Nat) (λxv=>[(0,pV g 0),(4,pV b4 0),(5,.bool false),(19,.slice A2 ls.length c2),(20,iV ((ls.length:Nat):Int)),(21,iV ((xv.1:Nat):Int))]) (λxv wr=>(xv.1<=ls.length)/\St B w0 wr ((.blk b4 #[iV 0,iV 0,iV 0,iV 0] 79)::(.blk b1 #[iV kd,iV ((k:Nat):Int),iV id,iV bd,iV he,iV hn] 75)::(.blk g (cB ep nx gv (.slice xv.2.1 (rs.length+xv.1) xv.2.2) (.slice A2 ls.length c2) W) 142)::(.own 88 2 (.slice xv.2.1 (rs.length+xv.1) xv.2.2) (rs.length+xv.1) ((rs++(ls.take xv.1).map (·.msg)).flatMap fJ.cells))::(.own 90 4 (.slice A2 ls.length c2) ls.length ((ls).flatMap Ls.cells))::fs)) (λxv=>ls.length-xv.1) (0,A1,c1) ?_ ?_ ?_
 ·exact ⟨Nat.zero_le _,by dsimp only;rw [show rs++(ls.take 0).map (·.msg)=rs by simp];exact S6⟩
 ·exact ⟨rfl,rfl,rfl,rfl,rfl,rfl,trivial⟩
 rintro ⟨q,Ab,cb⟩ w12 ⟨J3,yF⟩
 try dsimp only at J3 yF
 refine bH (l':=[(0,pV g 0),(4,pV b4 0),(5,.bool false),(19,.slice A2 ls.length c2),(20,iV ((ls.length:Nat):Int)),(21,iV ((q:Nat):Int))]) ⟨rfl,rfl,rfl,rfl,rfl,rfl,trivial⟩ (aT (aH ?_));by_cases h15:((q:Nat):Int)< ((ls.length:Nat):Int)
 ·refine zN 11 ?_;obtain ⟨b16,o17,rfl⟩:=Rd.addr (St.ord 4 yF rfl) (by omega);obtain ⟨x18,Dh⟩:=Ku q (St.ord 4 yF rfl) (by omega);refine vv (ku q) ?_;refine vv (au rfl rfl (aA (cs:=Ls.cells x18) Tryz.underlying90 rfl Gd rfl (Rd.wS (St.ord 4 yF rfl) (λ_ _ h=>bV (enc:=Ls.cells) (sz:=4) (λ_=>rfl) Dh h)))) ?_;refine fI yF amf ?_;intro b20 EO iR;refine sa 0 iR Gd ?_;intro KC jG;refine zN 2 ?_;have jg:=jG.drew;refine eO 14 10 jg [4] ?_;iterate 5 refine gy ?_
  refine gk (v:= .slice Ab (rs.length+q) cb) 5 rfl (St.del 4 jg) (λ_ Yu=>(au rfl rfl (ay Tryz.underlying50 rfl (St.cl 3 Yu rfl oF)))) ?_;refine gy ?_;refine gk (v:= .agg #[iV x18.msg.no,iV x18.msg.body]) 7 rfl (St.del 4 jg) (λ_ aip=>(au rfl rfl (aA (cs:=[iV x18.msg.no,iV x18.msg.body]) Tryz.underlying88 rfl DX rfl (St.rg 0 aip rfl (nG (x:=2) (m:=2) rfl))))) ?_;refine eB (m:=5) (r:=8) (by kernel_rfl) ?_;refine lF (i:=8) rfl rfl (V:=λb=> .slice (aD b 0) 1 1) (row:= #[iV x18.msg.no,iV x18.msg.body]) (t:=88) jg (wn rfl) rfl rfl (aP (vs:=[(0,.agg #[iV x18.msg.no,iV x18.msg.body])]) rfl ⟨rfl,rfl,trivial⟩ (by kernel_rfl)) ?_;intro b34 WI nJ;refine gy ?_;refine eB (m:=4) (r:=9) (by kernel_rfl) ?_;refine kE (i:=9) rfl rfl (news:=[iV x18.msg.no,iV x18.msg.body]) (xs':=(rs++(ls.take (q+1)).map (·.msg)).flatMap fJ.cells) 5 nJ (wn rfl) rfl rfl rfl rfl rfl rfl (St.lJ (xs:=[iV x18.msg.no,iV x18.msg.body]) 0 nJ rfl rfl rfl) Tryz.underlying50 Sk rfl (by decide) (bT rfl) (by simp only [maxLen];omega) (by omega) (jE (enc:=fJ.cells) (by rw [List.append_assoc,Iw (f:=λx:Ls=>x.msg) Dh]) rfl) ?_;intro A37 c38 w39 axS axT vk;refine gy ?_;refine dX (by kernel_rfl) rfl rfl rfl ?_;refine zN 3 ?_;refine je 4 vk NW ?_ (hs:=by exact Gy);intro w43 D9;refine zQ ?_;refine iJ ?_;refine zN 3 ?_;refine vv (v:=iV ((q+1:Nat):Int)) jh ?_;refine zN 2 ?_;have nV:=D9.aR [1,0];refine bQ (q+1,A37,c38) ?_ ⟨rfl,rfl,rfl,rfl,rfl,rfl,trivial⟩ (by first | omega | (dsimp only;omega));exact ⟨(by dsimp only;omega),nV⟩
 refine zN 12 ?_;obtain rfl:q=ls.length:=by omega
 have qQ:=yF;rw [List.take_length] at qQ;refine zN 4 ?_;refine vv (au rfl rfl (ay Tryz.underlying50 rfl (St.cl 2 qQ rfl oF))) ?_;have hml:(rs++ls.map (·.msg)).length=rs.length+ls.length:=by simp
 have HS:=λA c w (ho:World.ownsRow w B 88 2 (.slice A (rs++ls.map (·.msg)).length c) (rs++ls.map (·.msg)).length ((rs++ls.map (·.msg)).flatMap fJ.cells))=>Rt A c (rs++ls.map (·.msg)) w ho (by omega);rw [hml] at HS;refine dG arB (HS Ab cb _ (qQ.own 3 rfl)) ?_;rintro _ w47 ⟨rfl,d49,amq,asD,amr,ams⟩;refine ⟨_,rfl,?_⟩;have u6:=qQ.append 3 rfl ams amr (.inl rfl);have hdl:=acD amq asD hA hN;clear HS amr ams qQ;refine zN 8 ?_;refine je 2 u6 NY ?_ (hs:=by exact Gz);intro w54 uN;refine zN 8 ?_;refine vv (au rfl rfl (ay Tryz.underlying3 rfl (St.cl 2 uN rfl wM))) ?_;refine vv (v:=iV (ep+1)) jh ?_;refine zN 3 ?_;refine je 2 uN mM ?_ (hs:=by exact afU);intro w56 qd;refine zN 8 ?_;refine je 2 qd mM ?_ (hs:=by exact WG);intro w58 zW;refine zN 5 ?_;refine sa 0 zW cZ ?_;intro WW Ea;refine zN 5 ?_;have H8:=Ea.aR [1,0];have u7:=H8.bn 1 rfl;have S64:=u7.seal 2 rfl Rd.none_ (λ(a:Addr) (h:(none:Option Addr)=some a)=>by cases h);have hln:d49.length=rs.length+ls.length:=by rw [amq.length_eq,hml]
 rw [alf h1,<-hdl];refine ⟨rfl,Ab,cb,none,0,?_⟩;dsimp only;rw [hln];exact S64
theorem Nf {t z:Int} {f:Nat->Bool}: ∀ {k:Nat},z∈jd t f k-> ∃ j,j<k/\f j=true/\z=t-8+j
 | 0,h=>by simp [jd] at h
 | k+1,h=>by
  unfold jd at h
  split at h
  ·rename_i hf
   rcases List.mem_append.1 h with h | h
   ·obtain ⟨j,h1,h2⟩:=Nf h;exact ⟨j,by omega,h2⟩
   rw [List.mem_singleton] at h;exact ⟨k,by omega,hf,h⟩
  obtain ⟨j,h1,h2⟩:=Nf h;exact ⟨j,by omega,h2⟩
theorem acF {t:Int} {bs:List Bool} {i:Nat} (hi:i<8):(aax t bs).at i=bs.getD i false:=by
 have h:i=0\/i=1\/i=2\/i=3\/i=4\/i=5\/i=6\/i=7:=by omega
 rcases h with rfl | rfl | rfl | rfl | rfl | rfl | rfl | rfl<;>rfl
theorem aln {x:kr} {id:Int} (h:(oV x id).2=0):dB (AZ x id)=0:=by
 obtain ⟨h1,h2,h3⟩:=EC h;have h0:=qZ h1;have asE:=NI h1;have hx:DJ x.top x.at=true:=by
  unfold dB at h1
  split at h1
  ·rename_i hh
   simp only [Bool.and_eq_true] at hh;exact hh.1.2
  cases h1
 have ht:(AZ x id).top=max x.top (id+1):=rfl;have hat: ∀ i,i<8->(AZ x id).at i=decide (max x.top (id+1)-8+i∈jd x.top x.at 8++[id]):=λi hi=>by
  unfold AZ;rw [acF hi,UJ _ _ _ hi]
 unfold dB;refine if_pos ?_;have hw:DJ (AZ x id).top (AZ x id).at=true:=qx.2 λk hk hb=>by
  rw [hat k hk,decide_eq_true_eq] at hb;rw [ht]
  rcases List.mem_append.1 hb with hb | hb
  ·obtain ⟨j,j1,j2,j3⟩:=Nf hb;have:=qx.1 hx j j1 j2;omega
  rw [List.mem_singleton] at hb;omega
 have h7:(AZ x id).b7=true:=by
  show (AZ x id).at 7=true
  rw [hat 7 (by omega),decide_eq_true_eq];by_cases c:x.top<=id
  ·rw [show max x.top (id+1)=id+1 by omega];exact List.mem_append_right _ (by rw [List.mem_singleton];omega)
  rw [show max x.top (id+1)=x.top by omega];refine List.mem_append_left _ ?_
  rcases asE with ⟨h4,_⟩ | ⟨_,h5,h6⟩
  ·omega
  have:=List.getLast_mem h5;rw [List.getLastD_eq_getLast?,List.getLast?_eq_some_getLast h5,Option.getD_some] at h6;rw [h6] at this;rwa [show x.top-8+((7:Nat):Int)=x.top-1 by omega]
 rw [hw,h7,ht];simp only [Bool.and_true,Bool.or_true,Bool.and_eq_true,decide_eq_true_eq];omega
theorem agj {x:kr} {id:Int} (h:(iI x id).2.2=0) (h1:(iI x id).2.1=true):dB (iI x id).1=0:=by
 unfold iI at h h1⊢;by_cases c1:(oV x id).2≠0
 ·rw [if_pos c1] at h;exact absurd h c1
 rw [if_neg c1] at h h1⊢;by_cases c2:(oV x id).1=true
 ·rw [if_pos c2] at h1;cases h1
 rw [if_neg c2];exact aln (Classical.not_not.1 c1)
section
variable {ep nx gv p:Int} {rs:List fJ} {ls:List Ls} {W:jO}
theorem Cu: ∀ {rs:List fJ} {p:Int},jD nx p rs=true↔(∀ x∈rs,qB nx x=true/\p<x.no)/\rs.Pairwise λa b=>a.no<b.no
 | [],p=>by simp [jD]
 | m::r,p=>by
  simp only [jD,Bool.and_eq_true,decide_eq_true_eq,Cu (rs:=r),List.pairwise_cons,List.mem_cons,forall_eq_or_imp]
  constructor
  ·rintro ⟨⟨h1,h2⟩,h3,h4⟩;exact ⟨⟨⟨h1,h2⟩,λx hx=>⟨(h3 x hx).1,Int.lt_trans h2 (h3 x hx).2⟩⟩,λx hx=>(h3 x hx).2,h4⟩
  rintro ⟨⟨⟨h1,h2⟩,h3⟩,h4,h5⟩;exact ⟨⟨h1,h2⟩,λx hx=>⟨(h3 x hx).1,h4 x hx⟩,h5⟩
theorem H9: ∀ {ls:List Ls} {p:Int},kM ep nx gv p ls=true↔(∀ x∈ls,qB nx x.msg=true/\x.eP=ep/\p<x.hno/\x.hno<gv)/\ls.Pairwise λa b=>a.hno<b.hno
 | [],p=>by simp [kM]
 | m::r,p=>by
  simp only [kM,JY,Bool.and_eq_true,decide_eq_true_eq,H9 (ls:=r),List.pairwise_cons,List.mem_cons,forall_eq_or_imp]
  constructor
  ·rintro ⟨⟨h1,h2,h2',aiz⟩,h3,h4⟩;exact ⟨⟨⟨h1,h2,h2',aiz⟩,λx hx=>⟨(h3 x hx).1,(h3 x hx).2.1,Int.lt_trans h2' (h3 x hx).2.2.1,(h3 x hx).2.2.2⟩⟩,λx hx=>(h3 x hx).2.2.1,h4⟩
  rintro ⟨⟨⟨h1,h2,h2',aiz⟩,h3⟩,h4,h5⟩;exact ⟨⟨h1,h2,h2',aiz⟩,λx hx=>⟨(h3 x hx).1,(h3 x hx).2.1,h4 x hx,(h3 x hx).2.2.2⟩,h5⟩
theorem P5 {nx':Int} {m:fJ} (h:qB nx m=true) (hn:nx<=nx'):qB nx' m=true:=by
 have:=vK h;exact decide_eq_true (by omega)
theorem Oi (h:O4 ep nx gv rs ls) (h1:yD W) (h2:jD nx (-1) rs=true) (h3:kM ep nx gv (-1) ls=true) (h4:(mV rs ls).Nodup):fD ep nx gv rs ls W=0:=by
 unfold fD;rw [if_neg (λe=>e h),if_neg (λe=>e h1),if_pos ⟨h2,h3,h4⟩]
theorem acG {k:Nat} {y:kr} (h:yD W) (hy:dB y=0) (hk:k<4):yD (W.put k y):=λj hj=>by
 have h0:=h 0 (by omega);have h1:=h 1 (by omega);have h2:=h 2 (by omega);have h3:=h 3 (by omega);have hk':k=0\/k=1\/k=2\/k=3:=by omega
 have hj':j=0\/j=1\/j=2\/j=3:=by omega
 rcases hk' with rfl | rfl | rfl | rfl<;>rcases hj' with rfl | rfl | rfl | rfl<;>first | exact hy | exact h0 | exact h1 | exact h2 | exact h3
theorem IB {m:fJ}: ∀ {l:List fJ},(jF m l).Perm (m::l)
 | []=> .refl _
 | x::l=>by
  unfold jF
  split
  ·exact .refl _
  exact ((IB (l:=l)).cons x).trans (.swap m x l)
theorem WX {m:fJ}: ∀ {l:List fJ},qC l->qC (jF m l)
 | [],_=>List.pairwise_singleton _ _
 | x::l,h=>by
  obtain ⟨h1,h2⟩:=List.pairwise_cons.1 h;unfold jF
  split
  ·rename_i hm
   refine List.pairwise_cons.2 ⟨λy hy=>?_,h⟩
   rcases List.mem_cons.1 hy with rfl | hy
   ·omega
   have:=h1 y hy;omega
  rename_i hm
  refine List.pairwise_cons.2 ⟨λy hy=>?_,WX h2⟩
  rcases List.mem_cons.1 (IB.mem_iff.1 hy) with rfl | hy
  ·omega
  exact h1 y hy
theorem LQ: ∀ (ls:List Ls) (rs:List fJ),(ls.foldl (λl x=>jF x.msg l) rs).Perm (rs++ls.map (·.msg))
 | [],rs=>by simp
 | x::ls,rs=>by
  refine (LQ ls (jF x.msg rs)).trans ?_;refine (IB.append_right _).trans ?_;rw [List.map_cons];exact (List.perm_middle).symm
theorem P6: ∀ (ls:List Ls) (rs:List fJ),qC rs->qC (ls.foldl (λl x=>jF x.msg l) rs)
 | [],rs,h=>h
 | x::ls,rs,h=>P6 ls _ (WX h)
theorem Vh {l:List fJ} (h:qC l) (hn:(l.map (·.no)).Nodup):l.Pairwise λa b=>a.no<b.no:=by
 have h2:l.Pairwise λa b=>a.no≠b.no:=List.pairwise_map.1 hn;exact (h.and h2).imp λh=>by omega
end
theorem acH {Q:Qd} {e:Ev} (h:Q.fault=0) (he:aZ e=0):(stepM Q e).1.fault=0:=by
 obtain ⟨hr,hw,h2,h3,h4⟩:=Nb h;have hp:=WV he;obtain ⟨ep,nx,gv,rs,ls,W⟩:=Q;dsimp only at hr hw h2 h3 h4;obtain ⟨r1,r2,r3,r4,r5,r6,r7⟩:=hr;obtain ⟨a1,a2⟩:=Cu.1 h2;obtain ⟨b1,b2⟩:=H9.1 h3;unfold stepM
 split
 ·unfold Bd
  split
  ·exact h
  split
  ·exact h
  split
  ·exact h
  rename_i k1 k2 k3 k4
  dsimp only at k2 k3 k4⊢;have hlt: ∀ z∈mV rs ls,z<nx:=λz hz=>by
   unfold mV at hz
   rcases List.mem_append.1 hz with hz | hz
   ·obtain ⟨x,hx,rfl⟩:=List.mem_map.1 hz;exact (vK (a1 x hx).1).2.1
   obtain ⟨x,hx,rfl⟩:=List.mem_map.1 hz;exact (vK (b1 x hx).1).2.1
  have hbd:0<=e.body/\e.body<=1000000:=by
   unfold aZ at he
   repeat' split at he
   all_goals first
    | (cases he;done)
    | (simp only [jN,Bool.and_eq_true,decide_eq_true_eq,not_and,Classical.not_not] at*;omega)
  show fD ep (nx+1) gv (rs++[⟨nx,e.body⟩]) ls (W.put e.producer.toNat (iI (W.at e.producer.toNat) e.id).1)=0
  refine Oi ⟨r1,r2,by omega,by omega,r5,r6,by rw [List.length_append,List.length_singleton];omega⟩ (acG hw (agj (Classical.not_not.1 k2) (by simpa using k3)) (by omega)) (Cu.2 ⟨λx hx=>?_,?_⟩) (H9.2 ⟨λx hx=>⟨P5 (b1 x hx).1 (by omega),(b1 x hx).2⟩,b2⟩) ?_
  ·rcases List.mem_append.1 hx with hx | hx
   ·exact ⟨P5 (a1 x hx).1 (by omega),(a1 x hx).2⟩
   rw [List.mem_singleton] at hx;subst hx;exact ⟨decide_eq_true (by dsimp only;omega),by dsimp only;omega⟩
  ·refine List.pairwise_append.2 ⟨a2,List.pairwise_singleton _ _,λx hx y hy=>?_⟩;rw [List.mem_singleton] at hy;subst hy;exact hlt _ (List.mem_append_left _ (List.mem_map_of_mem hx))
  have:(mV (rs++[⟨nx,e.body⟩]) ls).Perm (nx::mV rs ls):=by
   unfold mV;rw [List.map_append,List.append_assoc];exact List.perm_middle
  exact this.nodup_iff.2 (List.nodup_cons.2 ⟨λhm=>by have:=hlt _ hm;omega,h4⟩)
 split
 ·unfold GD;dsimp only
  split
  ·exact h
  rename_i m rest
  split
  ·exact h
  rename_i k1
  obtain ⟨a3,a4⟩:=List.pairwise_cons.1 a2;have hm:=a1 m (by simp)
  show fD ep nx (gv+1) rest (ls++[⟨ep,gv,m⟩]) W=0
  refine Oi ⟨r1,r2,r3,r4,by omega,by omega,by rw [List.length_append,List.length_singleton];rw [List.length_cons] at r7;omega⟩ hw (Cu.2 ⟨λx hx=>a1 x (by simp [hx]),a4⟩) (H9.2 ⟨λx hx=>?_,?_⟩) ?_
  ·rcases List.mem_append.1 hx with hx | hx
   ·have:=b1 x hx;exact ⟨this.1,this.2.1,this.2.2.1,by omega⟩
   rw [List.mem_singleton] at hx;subst hx;exact ⟨hm.1,rfl,by dsimp only;omega,by dsimp only;omega⟩
  ·refine List.pairwise_append.2 ⟨b2,List.pairwise_singleton _ _,λx hx y hy=>?_⟩;rw [List.mem_singleton] at hy;subst hy;exact (b1 x hx).2.2.2
  refine (List.Perm.nodup_iff ?_).1 h4;unfold mV;rw [List.map_cons,List.map_append,List.cons_append,<-List.append_assoc];exact (List.perm_append_comm (l₁:=[m.no]) (l₂:=rest.map (·.no)++ls.map (·.msg.no)))
 split
 ·unfold EJ;dsimp only
  split
  ·exact h
  split
  ·exact h
  have hsub:(ls.filter λx=>decide (x.hno≠e.hno)).Sublist ls:=List.filter_sublist
  show fD ep nx gv rs (ls.filter λx=>decide (x.hno≠e.hno)) W=0
  refine Oi ⟨r1,r2,r3,r4,r5,r6,by have:=hsub.length_le;omega⟩ hw h2 (H9.2 ⟨λx hx=>b1 x (hsub.subset hx),b2.sublist hsub⟩) ?_;unfold mV at h4⊢;exact h4.sublist ((List.Sublist.refl _).append (hsub.map _))
 unfold JZ;dsimp only
 split
 ·exact h
 have hP:=LQ ls rs;have hlen:=hP.length_eq;rw [List.length_append,List.length_map] at hlen;have hnn:((ls.foldl (λl x=>jF x.msg l) rs).map (·.no)).Nodup:=by
  refine ((hP.map (·.no)).nodup_iff).2 ?_;unfold mV at h4;rw [List.map_append,List.map_map];exact h4
 show fD (ep+1) nx 0 (ls.foldl (λl x=>jF x.msg l) rs) [] W=0
 refine Oi ⟨by omega,by omega,r3,r4,by omega,by omega,by rw [List.length_nil];omega⟩ hw (Cu.2 ⟨λx hx=>?_,Vh (P6 ls rs (a2.imp λh=>Int.le_of_lt h)) hnn⟩) rfl ?_
 ·rcases List.mem_append.1 (hP.mem_iff.1 hx) with hx | hx
  ·exact a1 x hx
  obtain ⟨y,hy,rfl⟩:=List.mem_map.1 hx;have:=(b1 y hy).1;exact ⟨this,by have:=vK this;omega⟩
 unfold mV;rw [List.map_nil,List.append_nil];exact hnn
theorem alo {Q:Qd} {e:Ev} (h:(iD Q e).2.2.2=0):(iD Q e).1.fault=0:=by
 by_cases c1:Q.fault=0
 ·by_cases c2:aZ e=0
  ·rw [Bh c1 c2];exact acH c1 c2
  rw [TF c1 c2] at h;exact absurd h c2
 rw [Oh c1] at h;exact absurd h c1
theorem Yv:dP.fault=0:=by
 refine Oi ⟨by decide,by decide,by decide,by decide,by decide,by decide,by decide⟩ (λj hj=>?_) rfl rfl List.nodup_nil;have hj':j=0\/j=1\/j=2\/j=3:=by omega
 rcases hj' with rfl | rfl | rfl | rfl<;>decide
end
end Go.Proofs.YtbffmhpkenoogaaGreatDoor
