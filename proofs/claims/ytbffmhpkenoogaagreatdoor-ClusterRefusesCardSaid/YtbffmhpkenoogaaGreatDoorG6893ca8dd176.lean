/- Parts of proofs: lemmas on memory, on single functions and on the plain models; no condition of their own. -/
import Derived.Test.YtbffmhpkenoogaaGreatDoorG2ac182bd2af5
import Derived.Test.YtbffmhpkenoogaaGreatDoorG5b1faffbd623
set_option linter.unusedVariables false
set_option linter.unusedSimpArgs false
set_option linter.unnecessarySimpa false
set_option maxRecDepth 100000
set_option maxHeartbeats 8000000

namespace Go.Proofs.YtbffmhpkenoogaaGreatDoor
open Go.ChangeShapes Go.WideShapes Go.RowKit
structure fP where
 no:Int
 body:Int
 deriving DecidableEq
structure Ls where
 gG:Int
 hno:Int
 msg:fP
 deriving DecidableEq
structure jP where
 a:ku
 b:ku
 c:ku
 d:ku
 deriving DecidableEq
structure Qd where
 ep:Int
 nx:Int
 gv:Int
 ready:List fP
 bC:List Ls
 ws:jP
 deriving DecidableEq
def fP.cells (m:fP):List Value:=[.int .i64 m.no,.int .i64 m.body]
def Ls.cells (x:Ls):List Value:=[.int .i64 x.gG,.int .i64 x.hno,.int .i64 x.msg.no,.int .i64 x.msg.body]
def jP.cells (x:jP):List Value:=x.a.cells++(x.b.cells++(x.c.cells++x.d.cells))
def jP.at (x:jP) (p:Nat):ku:=if p=0 then x.a else if p=1 then x.b else if p=2 then x.c else x.d
def jP.put (x:jP) (p:Nat) (y:ku):jP:=if p=0 then { x with a:=y } else if p=1 then { x with b:=y } else if p=2 then { x with c:=y } else { x with d:=y }
theorem jP.len (x:jP):x.cells.length=36:=rfl
theorem ku.len (x:ku):x.cells.length=9:=rfl
def bV (e n g:Int) (r l:Value) (W:jP):Array Value:=(.int .i64 e:: .int .i64 n:: .int .i64 g::r::l::W.cells).toArray
def iW:jP:=⟨yt,yt,yt,yt⟩
section
variable {e n g:Int} {r l:Value} {W:jP}
theorem vF:(bV e n g r l W).size=41:=rfl
theorem vS:(bV e n g r l W)[0]? =some (.int .i64 e):=rfl
theorem yD:(bV e n g r l W)[1]? =some (.int .i64 n):=rfl
theorem yE:(bV e n g r l W)[2]? =some (.int .i64 g):=rfl
theorem nX:(bV e n g r l W)[3]? =some r:=rfl
theorem rA:(bV e n g r l W)[4]? =some l:=rfl
theorem aeD: ∀ (j:Nat) (u:Value),W.cells[j]? =some u→(bV e n g r l W)[5+j]? =some u:=mR (m:=36) rfl
theorem aeE: ∀ (j:Nat) (u:Value),(W.at 0).cells[j]? =some u→(bV e n g r l W)[5+j]? =some u:=mR (m:=9) rfl
theorem aeF: ∀ (j:Nat) (u:Value),(W.at 1).cells[j]? =some u→(bV e n g r l W)[14+j]? =some u:=mR (m:=9) rfl
theorem aeG: ∀ (j:Nat) (u:Value),(W.at 2).cells[j]? =some u→(bV e n g r l W)[23+j]? =some u:=mR (m:=9) rfl
theorem aeH: ∀ (j:Nat) (u:Value),(W.at 3).cells[j]? =some u→(bV e n g r l W)[32+j]? =some u:=mR (m:=9) rfl
theorem aeI {z:Int}:bX (bV e n g r l W) 0 [.int .i64 z]=bV z n g r l W:=rfl
theorem aeJ {z:Int}:bX (bV e n g r l W) 1 [.int .i64 z]=bV e z g r l W:=rfl
theorem Uv {z:Int}:bX (bV e n g r l W) 2 [.int .i64 z]=bV e n z r l W:=rfl
theorem ET {z:Value}:bX (bV e n g r l W) 3 [z]=bV e n g z l W:=rfl
theorem EU {z:Value}:bX (bV e n g r l W) 4 [z]=bV e n g r z W:=rfl
theorem aeK {x:ku}:bX (bV e n g r l W) 5 x.cells=bV e n g r l (W.put 0 x):=by
 apply Array.toList_inj.1;rw [fV _ _ _ (by rw [vF,ku.len];omega)];rfl
theorem aeL {x:ku}:bX (bV e n g r l W) 14 x.cells=bV e n g r l (W.put 1 x):=by
 apply Array.toList_inj.1;rw [fV _ _ _ (by rw [vF,ku.len];omega)];rfl
theorem aeM {x:ku}:bX (bV e n g r l W) 23 x.cells=bV e n g r l (W.put 2 x):=by
 apply Array.toList_inj.1;rw [fV _ _ _ (by rw [vF,ku.len];omega)];rfl
theorem aeN {x:ku}:bX (bV e n g r l W) 32 x.cells=bV e n g r l (W.put 3 x):=by
 apply Array.toList_inj.1;rw [fV _ _ _ (by rw [vF,ku.len];omega)];rfl
theorem EW (x:ku): ∀ u∈x.cells,u.oneCell'=true:=bZ rfl
theorem aaN (x:jP): ∀ u∈x.cells,u.oneCell'=true:=bZ rfl
theorem Gc (hr:r.oneCell'=true) (hl:l.oneCell'=true): ∀ u∈(bV e n g r l W).toList,u.oneCell'=true:=by
 intro u hu;simp only [bV,List.mem_cons] at hu
 rcases hu with rfl | rfl | rfl | rfl | rfl | hu
 ·rfl
 ·rfl
 ·rfl
 ·exact hr
 ·exact hl
 exact aaN W u hu
end
def Q0 (w:World) (k:Int) (e:Ending) (w':World):Prop:=e= .returned (.int .i64 k)∧Below w.heap.size w w'
def zV (w:World) (b:Bool) (e:Ending) (w':World):Prop:=e= .returned (.bool b)∧Below w.heap.size w w'
def uX (nx:Int) (m:fP):Bool:=decide (0≤m.no∧m.no<nx∧0≤m.body∧m.body≤1000000)
theorem NJ {nx:Int} {m:fP} (h:uX nx m=true):0≤m.no∧m.no<nx∧0≤m.body∧m.body≤1000000:=of_decide_eq_true h
def lH (nx:Int):Int→List fP→Bool
 | _,[]=>true
 | p,m::r=>(uX nx m&&decide (p<m.no))&&lH nx m.no r
def JK (ep nx gv p:Int) (x:Ls):Bool:=uX nx x.msg&&decide (x.gG=ep∧p<x.hno∧x.hno<gv)
def nK (ep nx gv:Int):Int→List Ls→Bool
 | _,[]=>true
 | p,x::r=>JK ep nx gv p x&&nK ep nx gv x.hno r
def yF (rs:List fP) (ls:List Ls):List Int:=rs.map (·.no)++ls.map (·.msg.no)
def Q5 (ep nx gv:Int) (rs:List fP) (ls:List Ls):Prop:=0≤ep∧ep≤1048576∧0≤nx∧nx≤1073741824∧0≤gv∧gv≤1073741824∧rs.length+ls.length≤500
def FN (W:jP):Prop:= ∀ j,j<4→eB (W.at j)=0
open Classical in
noncomputable def iL (ep nx gv:Int) (rs:List fP) (ls:List Ls) (W:jP):Int:=
 if ¬ Q5 ep nx gv rs ls then 6 else if ¬ FN W then 6 else if lH nx (-1) rs=true∧nK ep nx gv (-1) ls=true∧(yF rs ls).Nodup then 0 else 6
section
variable {ep nx gv p:Int} {rs:List fP} {ls:List Ls} {W:jP}
theorem zI (h: ¬ (0≤ep∧ep≤1048576∧0≤nx∧nx≤1073741824∧0≤gv∧gv≤1073741824∧rs.length+ls.length≤500)):iL ep nx gv rs ls W=6:=if_pos h
theorem xE (h: ¬ (FN W∧lH nx (-1) rs=true∧nK ep nx gv (-1) ls=true∧(yF rs ls).Nodup)):iL ep nx gv rs ls W=6:=by
 unfold iL
 split
 ·rfl
 split
 ·rfl
 rename_i h1 h2
 rw [if_neg (fun h3=>h ⟨Classical.not_not.1 h2,h3⟩)]
theorem akh {j:Nat} (hj:j<4) (h:eB (W.at j)≠0):iL ep nx gv rs ls W=6:=xE fun h1=>h (h1.1 j hj)
theorem apH (h0:Q5 ep nx gv rs ls) (h1:FN W) (h2:lH nx (-1) rs=true) (h3:nK ep nx gv (-1) ls=true) (h4:(yF rs ls).Nodup):iL ep nx gv rs ls W=0:=by
 unfold iL;rw [if_neg (fun h=>h h0),if_neg (fun h=>h h1),if_pos ⟨h2,h3,h4⟩]
theorem Gd {k:Nat} {m:fP} (h:rs[k]? =some m):lH nx p (rs.drop k)=((uX nx m&&decide (p<m.no))&&lH nx m.no (rs.drop (k+1))):=by
 obtain ⟨hk,hm⟩:=List.getElem?_eq_some_iff.1 h;rw [List.drop_eq_getElem_cons hk,hm];rfl
theorem Bf {k:Nat} {x:Ls} (h:ls[k]? =some x):nK ep nx gv p (ls.drop k)=(JK ep nx gv p x&&nK ep nx gv x.hno (ls.drop (k+1))):=by
 obtain ⟨hk,hm⟩:=List.getElem?_eq_some_iff.1 h;rw [List.drop_eq_getElem_cons hk,hm];rfl
theorem Gf {α β:Type} {f:α→β} {l:List α} {k:Nat} {x:α} (h:l[k]? =some x):(l.take k).map f++[f x]=(l.take (k+1)).map f:=by
 rw [List.take_add_one,h];simp
theorem aeO (x:ku):eB x=0∨eB x=6:=by unfold eB;split<;>simp
end
theorem Pp (W:jP) (w:World):(Instr.index 55 (.agg W.cells.toArray) (.int .i64 0)).run Tryz.prog w= .ok (.agg (W.at 0).cells.toArray) w:=by kernel_rfl
theorem Pq (W:jP) (w:World):(Instr.index 55 (.agg W.cells.toArray) (.int .i64 1)).run Tryz.prog w= .ok (.agg (W.at 1).cells.toArray) w:=by kernel_rfl
theorem Pt (W:jP) (w:World):(Instr.index 55 (.agg W.cells.toArray) (.int .i64 2)).run Tryz.prog w= .ok (.agg (W.at 2).cells.toArray) w:=by kernel_rfl
theorem Pv (W:jP) (w:World):(Instr.index 55 (.agg W.cells.toArray) (.int .i64 3)).run Tryz.prog w= .ok (.agg (W.at 3).cells.toArray) w:=by kernel_rfl
theorem SK (W:jP) (k:Nat) (hk:k<4) (w:World):(Instr.index 55 (.agg W.cells.toArray) (.int .i64 k)).run Tryz.prog w= .ok (.agg (W.at k).cells.toArray) w:=by
 have h:k=0∨k=1∨k=2∨k=3:=by omega
 rcases h with rfl | rfl | rfl | rfl
 ·exact Pp W w
 ·exact Pq W w
 ·exact Pt W w
 exact Pv W w
theorem aeP {e n g:Int} {r l:Value} {W:jP} {k:Nat} (hk:k<4): ∀ (j:Nat) (u:Value),(W.at k).cells[j]? =some u→(bV e n g r l W)[5+k*9+j]? =some u:=by
 have h:k=0∨k=1∨k=2∨k=3:=by omega
 rcases h with rfl | rfl | rfl | rfl
 ·exact aeE
 ·exact aeF
 ·exact aeG
 exact aeH
theorem jZ {α:Type} {enc:α→List Value} {l l':List α} {x:α} {cs:List Value} (h:l++[x]=l') (he:enc x=cs):l.flatMap enc++cs=l'.flatMap enc:=by
 subst h;subst he;simp
theorem ati {n lo hi:Int} (h:lo≤n∧n≤hi) (w:World):Calls Tryz.prog 81 #[.int .i64 n,.int .i64 lo,.int .i64 hi] w fun e w'=>e= .returned (.bool true)∧w=w':=by
 have:=Nn n lo hi w;rw [show jh n lo hi=true by simp [jh,h.1,h.2]] at this;exact this
theorem atj {n lo hi:Int} (h: ¬ (lo≤n∧n≤hi)) (w:World):Calls Tryz.prog 81 #[.int .i64 n,.int .i64 lo,.int .i64 hi] w fun e w'=>e= .returned (.bool false)∧w=w':=by
 have:=Nn n lo hi w;rw [show jh n lo hi=false by simp [jh];omega] at this;exact this
structure iK where
 code:Int
 gG:Int
 hno:Int
 body:Int
 deriving DecidableEq
def gF:iK:=⟨0,0,0,0⟩
def qD (k:Int):iK:=⟨k,0,0,0⟩
def iK.cells (a:iK):List Value:=[.int .i64 a.code,.int .i64 a.gG,.int .i64 a.hno,.int .i64 a.body]
def iK.val (a:iK):Value:= .agg #[.int .i64 a.code,.int .i64 a.gG,.int .i64 a.hno,.int .i64 a.body]
def Dn (Q:Qd) (k:Nat) (id bd:Int):Qd×iK×Bool:=
 if (jm (Q.ws.at k) id).2.2≠0 then (Q,qD (jm (Q.ws.at k) id).2.2,false)
 else if (jm (Q.ws.at k) id).2.1=false then (Q,gF,false)
 else if Q.ready.length+Q.bC.length=500∨Q.nx=1073741824 then (Q,qD 14,false)
 else (⟨Q.ep,Q.nx+1,Q.gv,Q.ready++[⟨Q.nx,bd⟩],Q.bC,Q.ws.put k (jm (Q.ws.at k) id).1⟩,gF,true)
def JL (Q:Qd):Qd×iK×Bool:=match Q.ready with
 | []=>(Q,qD 10,false)
 | m::rest=>if Q.gv=1073741824 then (Q,qD 14,false) else (⟨Q.ep,Q.nx,Q.gv+1,rest,Q.bC++[⟨Q.ep,Q.gv,m⟩],Q.ws⟩,⟨0,Q.ep,Q.gv,m.body⟩,true)
def Ic (Q:Qd) (he hn:Int):Qd×iK×Bool:=
 if he≠Q.ep then (Q,qD 11,false)
 else if (Q.bC.filter fun x=>decide (x.hno≠hn)).length=Q.bC.length then (Q,qD 7,false)
 else (⟨Q.ep,Q.nx,Q.gv,Q.ready,Q.bC.filter fun x=>decide (x.hno≠hn),Q.ws⟩,gF,true)
def qg (m:fP):List fP→List fP
 | []=>[m]
 | x::l=>if m.no<x.no then m::x::l else x::qg m l
def Q6 (Q:Qd):Qd×iK×Bool:=
 if Q.ep=1048576 then (Q,qD 14,false)
 else (⟨Q.ep+1,Q.nx,0,Q.bC.foldl (fun l x=>qg x.msg l) Q.ready,[],Q.ws⟩,gF,true)
section
variable {ep nx gv bd id he hn:Int} {rs:List fP} {ls:List Ls} {W:jP} {k:Nat}
theorem aeQ (h: ¬ (jm (W.at k) id).2.2=0):Dn ⟨ep,nx,gv,rs,ls,W⟩ k id bd=(⟨ep,nx,gv,rs,ls,W⟩,qD (jm (W.at k) id).2.2,false):=if_pos h
theorem aeR (h:(jm (W.at k) id).2.2=0) (h1:(jm (W.at k) id).2.1=false):Dn ⟨ep,nx,gv,rs,ls,W⟩ k id bd=(⟨ep,nx,gv,rs,ls,W⟩,gF,false):=by
 unfold Dn;rw [if_neg (fun h2=>h2 h),if_pos h1]
theorem NK (h:(jm (W.at k) id).2.2=0) (h1:(jm (W.at k) id).2.1=true) (h2:rs.length+ls.length=500∨nx=1073741824):Dn ⟨ep,nx,gv,rs,ls,W⟩ k id bd=(⟨ep,nx,gv,rs,ls,W⟩,qD 14,false):=by
 unfold Dn;rw [if_neg (fun h2=>h2 h),if_neg (fun h3=>by rw [h1] at h3;cases h3),if_pos h2]
theorem aki (h:(jm (W.at k) id).2.2=0) (h1:(jm (W.at k) id).2.1=true) (h2: ¬ (rs.length+ls.length=500∨nx=1073741824)):Dn ⟨ep,nx,gv,rs,ls,W⟩ k id bd=(⟨ep,nx+1,gv,rs++[⟨nx,bd⟩],ls,W.put k (jm (W.at k) id).1⟩,gF,true):=by
 unfold Dn;rw [if_neg (fun h2=>h2 h),if_neg (fun h3=>by rw [h1] at h3;cases h3),if_neg h2]
theorem aaO (h:rs.length=0):JL ⟨ep,nx,gv,rs,ls,W⟩=(⟨ep,nx,gv,rs,ls,W⟩,qD 10,false):=by
 cases rs with
 | nil=>rfl
 | cons m r=>simp at h
theorem aaP (h: ¬ rs.length=0) (h1:gv=1073741824):JL ⟨ep,nx,gv,rs,ls,W⟩=(⟨ep,nx,gv,rs,ls,W⟩,qD 14,false):=by
 cases rs with
 | nil=>simp at h
 | cons m r=>exact if_pos h1
theorem akj {m:fP} (h:rs[0]? =some m) (h1: ¬ gv=1073741824):JL ⟨ep,nx,gv,rs,ls,W⟩=(⟨ep,nx,gv+1,rs.drop 1,ls++[⟨ep,gv,m⟩],W⟩,⟨0,ep,gv,m.body⟩,true):=by
 cases rs with
 | nil=>simp at h
 | cons m r=>
  simp at h;subst h;exact if_neg h1
theorem VK (h: ¬ he=ep):Ic ⟨ep,nx,gv,rs,ls,W⟩ he hn=(⟨ep,nx,gv,rs,ls,W⟩,qD 11,false):=if_pos h
theorem aaQ (h:he=ep) (h1:(ls.filter fun x=>decide (x.hno≠hn)).length=ls.length):Ic ⟨ep,nx,gv,rs,ls,W⟩ he hn=(⟨ep,nx,gv,rs,ls,W⟩,qD 7,false):=by
 unfold Ic;rw [if_neg (fun h2=>h2 h),if_pos h1]
theorem akk (h:he=ep) (h1: ¬ (ls.filter fun x=>decide (x.hno≠hn)).length=ls.length):Ic ⟨ep,nx,gv,rs,ls,W⟩ he hn=(⟨ep,nx,gv,rs,ls.filter fun x=>decide (x.hno≠hn),W⟩,gF,true):=by
 unfold Ic;rw [if_neg (fun h2=>h2 h),if_neg h1]
theorem aaR (h:ep=1048576):Q6 ⟨ep,nx,gv,rs,ls,W⟩=(⟨ep,nx,gv,rs,ls,W⟩,qD 14,false):=if_pos h
theorem akl (h: ¬ ep=1048576):Q6 ⟨ep,nx,gv,rs,ls,W⟩=(⟨ep+1,nx,0,ls.foldl (fun l x=>qg x.msg l) rs,[],W⟩,gF,true):=if_neg h
end
theorem aeS {e n g:Int} {r l:Value} {W:jP} {x:ku} {k:Nat} (hk:k<4):bX (bV e n g r l W) (5+k*9) x.cells=bV e n g r l (W.put k x):=by
 match k,hk with
 | 0,_=>exact aeK
 | 1,_=>exact aeL
 | 2,_=>exact aeM
 | 3,_=>exact aeN
def BM (B:Nat) (w0:World) (g:Nat) (fs:List Fact) (r:Qd×iK×Bool) (e:Ending) (w':World):Prop:=
 e= .returned (.tuple #[r.2.1.val,.bool r.2.2])∧ ∃ A1 c1 A2 c2,St B w0 w' (.blk g (bV r.1.ep r.1.nx r.1.gv (.slice A1 r.1.ready.length c1) (.slice A2 r.1.bC.length c2) r.1.ws) 142:: .bG 2 A1 r.1.ready.length (r.1.ready.flatMap fP.cells):: .bG 4 A2 r.1.bC.length (r.1.bC.flatMap Ls.cells)::fs)
instance:FH fP where
 size:=2
 ints m:=[m.no,m.body]
 of xs:=⟨xs.getD 0 0,xs.getD 1 0⟩
 pos:=by decide
 len _:=rfl
 inv xs h:=by
  match xs,h with
  | [a,b],_=>rfl
instance:FH Ls where
 size:=4
 ints m:=[m.gG,m.hno,m.msg.no,m.msg.body]
 of xs:=⟨xs.getD 0 0,xs.getD 1 0,⟨xs.getD 2 0,xs.getD 3 0⟩⟩
 pos:=by decide
 len _:=rfl
 inv xs h:=by
  match xs,h with
  | [a,b,c,d],_=>rfl
theorem aaS (l:List fP): ∀ u∈l.flatMap fP.cells,u.oneCell'=true:=Cn l
theorem Uw (l:List Ls): ∀ u∈l.flatMap Ls.cells,u.oneCell'=true:=Cn l
section
variable {P:Program} {w:World} {t e:TypeId} {xo yo:Operand}
theorem uf {A:Option Addr} {n c:Nat} (h:P.underlying t=some (.slice e)):(do eqGuard .eql t xo yo (.slice A n c) (.slice none 0 0);binOp .eql t (.slice A n c) (.slice none 0 0):Sem Value).run P w= .ok (.bool A.isNone) w:=by
 rw [Sem.run_bind,show (eqGuard .eql t xo yo (.slice A n c) (.slice none 0 0)).run P w= .ok () w from rfl];exact Lib.run_eql_slice_nil w t e A n c 0 0 h
end
theorem EX {w:World} {B s n:Nat} {xs:List Value} (h:Rd w B s none n xs):n=0∧xs=[]:=by
 have h1:n=0:=by
  rcases Nat.eq_zero_or_pos n with h0 | h0
  ·exact h0
  obtain ⟨b,off,e,_⟩:=h.2 h0
  cases e
 subst h1;exact ⟨rfl,List.eq_nil_of_length_eq_zero (by have:=h.1;omega)⟩
theorem LZ (A:Option Addr) (n c:Nat) (l:List Value) (w:World) (h:Rd w w.heap.size 2 A n l) (hone: ∀ u∈l,u.oneCell'=true) (hc:n*16≤reachBytes):
    Calls Tryz.prog 54 #[.slice A n c] w (iM w 88 2 n l):=by
 unfold reachBytes at hc;have S:=(St.start w).bH h;refine fE 8 Tryz.func54 ?_;refine cw [0] ?_;iterate 9 refine zQ ?_
 cases A with
 | none=>
  obtain ⟨rfl,rfl⟩:=EX h;refine vv (v:= .bool true) (ah rfl rfl rfl (uf Tryz.underlying50)) ?_;iterate 11 refine zQ ?_
  exact iM.of (Below.refl _ _) (iw _ _ _ _)
 | some a=>
  refine vv (v:= .bool false) (ah rfl rfl rfl (uf Tryz.underlying50)) ?_;iterate 7 refine zQ ?_
  refine rX (V:=fun b=> .slice (aD b 0) 0 0) (row:= #[]) (t:=88) (n:=0) (s:=2) (xs:=[]) S (wn rfl) rfl rfl (aK (vs:=[]) rfl trivial (by kernel_rfl)) (by simp) (Nat.zero_le _) rfl ?_;intro b1 w2 S3;refine zQ ?_;refine dB (news:=l) (xs':=l) 0 S3 (wn rfl) rfl rfl rfl rfl rfl rfl (St.rd 1 S3 rfl) Tryz.underlying50 Qk rfl (by decide) hone (by simp only [maxLen];omega) (by omega) rfl ?_;intro A4 c5 w6 hc8 oZ S7;iterate 5 refine zQ ?_
  have jE:=S7.aR [1];have ho:=jE.own 0 rfl;simp only [Nat.zero_add] at ho⊢;exact iM.of jE.low ho
theorem L6 (A:Option Addr) (n c:Nat) (l:List Value) (w:World) (h:Rd w w.heap.size 4 A n l) (hone: ∀ u∈l,u.oneCell'=true) (hc:n*32≤reachBytes):
    Calls Tryz.prog 55 #[.slice A n c] w (iM w 90 4 n l):=by
 unfold reachBytes at hc;have S:=(St.start w).bH h;refine fE 8 Tryz.func55 ?_;refine cw [0] ?_;iterate 9 refine zQ ?_
 cases A with
 | none=>
  obtain ⟨rfl,rfl⟩:=EX h;refine vv (v:= .bool true) (ah rfl rfl rfl (uf Tryz.underlying51)) ?_;iterate 11 refine zQ ?_
  exact iM.of (Below.refl _ _) (iw _ _ _ _)
 | some a=>
  refine vv (v:= .bool false) (ah rfl rfl rfl (uf Tryz.underlying51)) ?_;iterate 7 refine zQ ?_
  refine rX (V:=fun b=> .slice (aD b 0) 0 0) (row:= #[]) (t:=90) (n:=0) (s:=4) (xs:=[]) S (wn rfl) rfl rfl (aK (vs:=[]) rfl trivial (by kernel_rfl)) (by simp) (Nat.zero_le _) rfl ?_;intro b1 w2 S3;refine zQ ?_;refine dB (news:=l) (xs':=l) 0 S3 (wn rfl) rfl rfl rfl rfl rfl rfl (St.rd 1 S3 rfl) Tryz.underlying51 Zf rfl (by decide) hone (by simp only [maxLen];omega) (by omega) rfl ?_;intro A4 c5 w6 hc8 oZ S7;iterate 5 refine zQ ?_
  have jE:=S7.aR [1];have ho:=jE.own 0 rfl;simp only [Nat.zero_add] at ho⊢;exact iM.of jE.low ho
theorem Ap (e nx g:Int) (r l:Value) (W:jP) (m:fP) (w:World):
    Calls Tryz.prog 85 #[.agg (bV e nx g (r) (l) W),.agg #[iV m.no,iV m.body]] w (zV w (uX nx m)):=by
 have S:=St.start w;refine fE 25 Tryz.func85 ?_;refine cw [0,1] ?_;iterate 2 refine zQ ?_
 refine gD S ?_;intro b1 w2 S3;refine gD S3 ?_;intro b4 w5 S6;iterate 7 refine zQ ?_
 by_cases h7:0≤m.no
 ·iterate 5 refine zQ ?_
  refine vg (aj rfl rfl (aA Tryz.underlying3 rfl (St.cl 1 S6 rfl yD))) ?_;by_cases h8:m.no<nx
  ·iterate 5 refine zQ ?_
   by_cases h9:0≤m.body
   ·iterate 5 refine zQ ?_
    by_cases h10:m.body≤1000000
    ·iterate 7 refine zQ ?_
     refine ⟨?_,S6.low⟩;rw [show uX nx m=true from decide_eq_true ⟨‹_›,‹_›,‹_›,‹_›⟩];rfl
    iterate 7 refine zQ ?_
    refine ⟨?_,S6.low⟩;rw [show uX nx m=false from decide_eq_false (fun h=>absurd h.2.2.2 ‹_›)];rfl
   iterate 12 refine zQ ?_
   refine ⟨?_,S6.low⟩;rw [show uX nx m=false from decide_eq_false (fun h=>absurd h.2.2.1 ‹_›)];rfl
  iterate 17 refine zQ ?_
  refine ⟨?_,S6.low⟩;rw [show uX nx m=false from decide_eq_false (fun h=>absurd h.2.1 ‹_›)];rfl
 iterate 23 refine zQ ?_
 refine ⟨?_,S6.low⟩;rw [show uX nx m=false from decide_eq_false (fun h=>absurd h.1 ‹_›)];rfl
theorem I9 {B g k c1 c2:Nat} {w0 w:World} {fs:List Fact} {A1 A2:Option Addr} {rs:List fP} {ls:List Ls} {W:jP} {ep nx gv kd id bd he hn:Int} (S:St B w0 w (.blk g (bV ep nx gv (.slice A1 rs.length c1) (.slice A2 ls.length c2) W) 142:: .own 88 2 (.slice A1 rs.length c1) rs.length ((rs).flatMap fP.cells):: .own 90 4 (.slice A2 ls.length c2) ls.length ((ls).flatMap Ls.cells)::fs)) (hk:k<4) (hlen:rs.length+ls.length≤500) (hnx:0≤nx∧nx≤1073741824) (hgv:0≤gv∧gv≤1073741824) (gG:0≤ep∧ep≤1048576):
    Calls Tryz.prog 56 #[pV g 0,.agg #[iV kd,iV ((k:Nat):Int),iV id,iV bd,iV he,iV hn]] w (BM B w0 g fs (Dn ⟨ep,nx,gv,rs,ls,W⟩ k id bd)):=by
 refine fE 94 Tryz.func56 ?_;refine cw [0,1] ?_;iterate 2 refine zQ ?_
 refine gD S ?_;intro b1 w2 S3;refine eU S3 rz ?_;intro b4 w5 S6;iterate 3 refine zQ ?_
 refine jU (X:=Nat) (fun xv=>[(0,pV g 0),(3,pV b1 0),(4,pV b4 0),(5,.bool false),(6,pV xv 0),(7,.bool ((jm (W.at k) id).2.1)),(8,iV ((jm (W.at k) id).2.2))]) (fun xv wr=>St B w0 wr ((.blk xv (((jm (W.at k) id).1.cells).toArray) 54)::(.blk b4 #[iV 0,iV 0,iV 0,iV 0] 79)::(.blk b1 #[iV kd,iV ((k:Nat):Int),iV id,iV bd,iV he,iV hn] 75)::(.blk g (bV ep nx gv (.slice A1 rs.length c1) (.slice A2 ls.length c2) W) 142)::(.own 88 2 (.slice A1 rs.length c1) rs.length ((rs).flatMap fP.cells))::(.own 90 4 (.slice A2 ls.length c2) ls.length ((ls).flatMap Ls.cells))::fs)) ?_ ?_
 ·have S7:=S6.drew;refine aN 19 S7 [] ?_;iterate 6 refine aF ?_
  refine ak (v:=pV g (5+k*9)) 6 rfl S7 (fun _ _=>(bP rfl rfl rfl (eu k Tryz.underlying55 Ct rfl hk))) ?_;refine ak (v:= .agg (((W.at k).cells).toArray)) 7 rfl S7 (fun _ ahj=>(aj rfl rfl (aG (cs:=(W.at k).cells) Tryz.underlying54 rfl Ct rfl (St.rg 2 ahj rfl (aeP hk))))) ?_;iterate 2 refine aF ?_
  refine dR (n:=8) (r:=10) (s:=15) (by kernel_rfl) ?_ ?_
  ·refine iH 10 rfl alN (DZ (W.at k) id _) ?_;rintro _ L8 ⟨rfl,VL⟩;refine ⟨_,rfl,?_⟩;have lg:=S7.on VL;iterate 5 refine aF ?_
   refine aS 15 ?_;refine jk 15 rfl lg ahi ?_;intro NM IQ qJ;refine aF ?_;refine aS 16 ?_;refine Zp 16 rfl 0 qJ Ct ?_ (h1:=EW _);intro VN sj;iterate 4 refine aF ?_
   refine bJ NM ?_ ⟨rfl,rfl,rfl,rfl,rfl,rfl,rfl,trivial⟩;exact sj
  refine jk 15 rfl S7 ahi ?_;intro b32 Qp oD;refine aF ?_;refine aS 10 ?_;refine iH 10 rfl alN (DZ (W.at k) id _) ?_;rintro _ VO ⟨rfl,ahk⟩;refine ⟨_,rfl,?_⟩;have nL:=oD.on ahk;iterate 5 refine aF ?_
  refine aS 16 ?_;refine Zp 16 rfl 0 nL Ct ?_ (h1:=EW _);intro Ux tu;iterate 4 refine aF ?_
  refine bJ b32 ?_ ⟨rfl,rfl,rfl,rfl,rfl,rfl,rfl,trivial⟩;exact tu
 rintro Uy w47 qX
 try dsimp only at qX
 refine bq (l':=[(0,pV g 0),(3,pV b1 0),(4,pV b4 0),(5,.bool false),(6,pV Uy 0),(7,.bool ((jm (W.at k) id).2.1)),(8,iV ((jm (W.at k) id).2.2))]) ⟨rfl,rfl,rfl,rfl,rfl,rfl,rfl,trivial⟩ (aW (BH (aW (aO (vm ?_)))));by_cases h1:(jm (W.at k) id).2.2=0
 ·iterate 8 refine zQ ?_
  cases h2:(jm (W.at k) id).2.1
  ·iterate 8 refine zQ ?_
   refine sa 1 qX dh ?_;intro Qq rO;iterate 7 refine zQ ?_
   have sw:=rO.aR [2,1,0];have oF:=sw.aZ 1 rfl;have vG:=oF.aZ 2 rfl;rw [aeR h1 h2];refine ⟨rfl,A1,c1,A2,c2,?_⟩;dsimp only;exact vG
  iterate 6 refine zQ ?_
  refine eH qX mixed (by kernel_rfl) ?_;iterate 4 refine zQ ?_
  refine uv (v:= .slice A1 rs.length c1) (fun _ atl=>(aj rfl rfl (aA Tryz.underlying50 rfl (St.cl 3 atl rfl nX)))) ?_;iterate 5 refine zQ ?_
  refine uv (v:= .slice A2 ls.length c2) (fun _ VP=>(aj rfl rfl (aA Tryz.underlying51 rfl (St.cl 3 VP rfl rA)))) ?_;refine zQ ?_;refine uv (v:=iV ((rs.length+ls.length:Nat):Int)) (fun _ _=>jv) ?_;by_cases h3:rs.length+ls.length=500
  ·iterate 10 refine zQ ?_
   refine fC fun w71 Cz=>?_
   iterate 4 refine zQ ?_
   refine vv (v:= .agg #[iV 14,iV 0,iV 0,iV 0]) gZ ?_;refine sa 1 Cz dh ?_;intro w73 JM;iterate 7 refine zQ ?_
   have vH:=JM.aR [2,1,0];have FP:=vH.aZ 1 rfl;have CB:=FP.aZ 2 rfl;rw [NK h1 h2 (.inl h3)];refine ⟨rfl,A1,c1,A2,c2,?_⟩;dsimp only;exact CB
  iterate 6 refine zQ ?_
  refine ug (v:=iV nx) (fun _ atm=>(aj rfl rfl (aA Tryz.underlying3 rfl (St.cl 3 atm rfl yD)))) ?_;by_cases h4:nx=1073741824
  ·iterate 3 refine zQ ?_
   refine fC fun w88 FQ=>?_
   iterate 4 refine zQ ?_
   refine vv (v:= .agg #[iV 14,iV 0,iV 0,iV 0]) gZ ?_;refine sa 1 FQ dh ?_;intro VQ rP;iterate 7 refine zQ ?_
   have vI:=rP.aR [2,1,0];have yR:=vI.aZ 1 rfl;have CF:=yR.aZ 2 rfl;rw [NK h1 h2 (.inr h4)];refine ⟨rfl,A1,c1,A2,c2,?_⟩;dsimp only;exact CF
  iterate 3 refine zQ ?_
  refine fC fun w98 VR=>?_
  iterate 6 refine zQ ?_
  have oJ:=VR.drew;refine aN 9 oJ [3] ?_;iterate 7 refine aF ?_
  refine ak (v:=pV g (5+k*9)) 7 rfl (St.del 3 oJ) (fun _ _=>(bP rfl rfl rfl (eu k Tryz.underlying55 Ct rfl hk))) ?_;refine aS 8 ?_;refine rY (i:=8) rfl rfl (cs:=((jm (W.at k) id).1.cells).toArray) (row':=bV ep nx gv (.slice A1 rs.length c1) (.slice A2 ls.length c2) (W.put k (jm (W.at k) id).1)) (fs':=(.blk Uy (((jm (W.at k) id).1.cells).toArray) 54)::(.blk b4 #[iV 0,iV 0,iV 0,iV 0] 79)::(.blk b1 #[iV kd,iV ((k:Nat):Int),iV id,iV bd,iV he,iV hn] 75)::(.blk g (bV ep nx gv (.slice A1 rs.length c1) (.slice A2 ls.length c2) (W.put k (jm (W.at k) id).1)) 142)::(.own 88 2 (.slice A1 rs.length c1) rs.length ((rs).flatMap fP.cells))::(.own 90 4 (.slice A2 ls.length c2) ls.length ((ls).flatMap Ls.cells))::fs) 3 oJ (wn rfl) rfl rfl rfl rfl rfl rfl Ct rfl (EW _) (by rw [vF];omega) (aeS hk) rfl ?_;intro VT pq;iterate 2 refine aF ?_
  iterate 2 refine zQ ?_
  have zW:=pq.drew;refine fG 20 16 zW [4] ?_;iterate 5 refine iP ?_
  refine gk (v:= .slice A1 rs.length c1) 5 rfl (St.del 4 zW) (fun _ apI=>(aj rfl rfl (aA Tryz.underlying50 rfl (St.cl 3 apI rfl nX)))) ?_;iterate 4 refine iP ?_
  refine gk (v:=iV nx) 10 rfl (St.del 4 zW) (fun _ apJ=>(aj rfl rfl (aA Tryz.underlying3 rfl (St.cl 3 apJ rfl yD)))) ?_;iterate 2 refine iP ?_
  refine gk (v:= .agg #[iV nx,iV bd]) 13 rfl (St.del 4 zW) (fun _ _=>gZ) ?_;refine gW (m:=5) (r:=14) (by kernel_rfl) ?_;refine kS (i:=14) rfl rfl (V:=fun b=> .slice (aD b 0) 1 1) (row:= #[iV nx,iV bd]) (t:=88) zW (wn rfl) rfl rfl (aK (vs:=[(0,.agg #[iV nx,iV bd])]) rfl ⟨rfl,rfl,trivial⟩ (by kernel_rfl)) ?_;intro aBL Ie nM;refine iP ?_;refine gW (m:=4) (r:=15) (by kernel_rfl) ?_;refine jW (i:=15) rfl rfl (news:=[iV nx,iV bd]) (xs':=(rs++[(⟨nx,bd⟩:fP)]).flatMap fP.cells) 5 nM (wn rfl) rfl rfl rfl rfl rfl rfl (St.iG (xs:=[iV nx,iV bd]) 0 nM rfl rfl rfl) Tryz.underlying50 Qk rfl (by decide) (bZ rfl) (by simp only [maxLen];omega) (by omega) (jZ (enc:=fP.cells) rfl rfl) ?_;intro atn c130 ab6 ayW ayX qE;refine iP ?_;refine eF (by kernel_rfl) rfl rfl rfl ?_;iterate 3 refine zQ ?_
  refine iU 4 qE LM ?_ (hs:=by exact ET);intro ahl yS;refine zQ ?_;refine je ?_;iterate 7 refine zQ ?_
  refine vv (aj rfl rfl (aA Tryz.underlying3 rfl (St.cl 4 yS rfl yD))) ?_;refine vv (v:=iV (nx+1)) jv ?_;iterate 3 refine zQ ?_
  refine iU 4 yS fM ?_ (hs:=by exact aeJ);intro ahm qF;iterate 5 refine zQ ?_
  refine sa 2 qF dh ?_;intro ato Dp;iterate 5 refine zQ ?_
  have atp:=Dp.aR [3,2,1,0];have EY:=atp.aZ 1 rfl;have JN:=EY.aZ 2 rfl;rw [aki h1 h2 (fun h=>h.elim h3 h4)];have hln:=(by simp:(rs++[(⟨nx,bd⟩:fP)]).length=rs.length+1);refine ⟨rfl,atn,c130,A2,c2,?_⟩;dsimp only;rw [hln];exact JN
 iterate 8 refine zQ ?_
 refine vv (v:= .agg #[iV ((jm (W.at k) id).2.2),iV 0,iV 0,iV 0]) gZ ?_;refine sa 1 qX dh ?_;intro VU Dq;iterate 7 refine zQ ?_
 have MV:=Dq.aR [2,1,0];have MW:=MV.aZ 1 rfl;have xK:=MW.aZ 2 rfl;rw [aeQ h1];refine ⟨rfl,A1,c1,A2,c2,?_⟩;dsimp only;exact xK
theorem cO {w:World} {base:Nat} {e:TypeId} {size:Nat} {A:Option Addr} {n c:Nat} {xs:List Value} (h:w.ownsRow base e size (.slice A n c) n xs):n≤c∧c≤maxLen:=by
 obtain ⟨A',c',e1,h1,h2⟩:=kY h
 cases e1;exact ⟨h1,h2⟩
theorem Uz {α:Type} {enc:α→List Value} {sz:Nat} (hsz: ∀ x,(enc x).length=sz): ∀ (k:Nat) (l:List α),(l.flatMap enc).drop (k*sz)=(l.drop k).flatMap enc
 | 0,l=>by simp
 | k+1,[]=>by simp
 | k+1,x::l=>by rw [List.flatMap_cons,Nat.succ_mul,Nat.add_comm,←List.drop_drop,List.drop_left' (hsz x),Uz hsz k l];rfl
theorem aaT {w:World} {B:Nat} {A:Option Addr} {rs:List fP} (h:Rd w B 2 A (rs.length-1) (((rs.flatMap fP.cells).drop (1*2)).take ((rs.length-1)*2))):Rd w B 2 A (rs.length-1) ((rs.drop 1).flatMap fP.cells):=by
 rw [Uz (enc:=fP.cells) (sz:=2) (fun _=>rfl),List.take_of_length_le (by rw [gL (sz:=2) (fun _=>rfl),List.length_drop];exact Nat.le_refl _)] at h;exact h
theorem Ja {B g k c1 c2:Nat} {w0 w:World} {fs:List Fact} {A1 A2:Option Addr} {rs:List fP} {ls:List Ls} {W:jP} {ep nx gv kd id bd he hn:Int} (S:St B w0 w (.blk g (bV ep nx gv (.slice A1 rs.length c1) (.slice A2 ls.length c2) W) 142:: .own 88 2 (.slice A1 rs.length c1) rs.length ((rs).flatMap fP.cells):: .own 90 4 (.slice A2 ls.length c2) ls.length ((ls).flatMap Ls.cells)::fs)) (hk:k<4) (hlen:rs.length+ls.length≤500) (hnx:0≤nx∧nx≤1073741824) (hgv:0≤gv∧gv≤1073741824) (gG:0≤ep∧ep≤1048576):
    Calls Tryz.prog 57 #[pV g 0,.agg #[iV kd,iV ((k:Nat):Int),iV id,iV bd,iV he,iV hn]] w (BM B w0 g fs (JL ⟨ep,nx,gv,rs,ls,W⟩)):=by
 refine fE 80 Tryz.func57 ?_;refine cw [0,1] ?_;iterate 2 refine zQ ?_
 refine gD S ?_;intro b1 w2 S3;refine eU S3 rz ?_;intro b4 w5 S6;iterate 11 refine zQ ?_
 refine vv (aj rfl rfl (aA Tryz.underlying50 rfl (St.cl 2 S6 rfl nX))) ?_;refine zQ ?_;by_cases h1:rs.length=0
 ·iterate 7 refine zQ ?_
  refine vv (v:= .agg #[iV 10,iV 0,iV 0,iV 0]) gZ ?_;refine sa 0 S6 dh ?_;intro w7 S8;iterate 7 refine zQ ?_
  have S9:=S8.aR [1,0];have jE:=S9.aZ 1 rfl;have jQ:=jE.aZ 2 rfl;rw [aaO h1];refine ⟨rfl,A1,c1,A2,c2,?_⟩;dsimp only;exact jQ
 iterate 11 refine zQ ?_
 refine vv (aj rfl rfl (aA Tryz.underlying3 rfl (St.cl 2 S6 rfl yE))) ?_;by_cases h2:gv=1073741824
 ·iterate 7 refine zQ ?_
  refine vv (v:= .agg #[iV 14,iV 0,iV 0,iV 0]) gZ ?_;refine sa 0 S6 dh ?_;intro Qr qK;iterate 7 refine zQ ?_
  have jH:=qK.aR [1,0];have gH:=jH.aZ 1 rfl;have jR:=gH.aZ 2 rfl;rw [aaP h1 h2];refine ⟨rfl,A1,c1,A2,c2,?_⟩;dsimp only;exact jR
 iterate 9 refine zQ ?_
 have kT:=S6.drew;refine fG 21 20 kT [] ?_;iterate 4 refine iP ?_
 refine gk (v:=iV ep) 4 rfl kT (fun _ Dr=>(aj rfl rfl (aA Tryz.underlying3 rfl (St.cl 2 Dr rfl vS)))) ?_;iterate 4 refine iP ?_
 refine gk (v:=iV gv) 9 rfl kT (fun _ ahn=>(aj rfl rfl (aA Tryz.underlying3 rfl (St.cl 2 ahn rfl yE)))) ?_;refine gk (v:= .agg #[iV ep,iV gv]) 10 rfl kT (fun _ _=>gZ) ?_;iterate 4 refine iP ?_
 refine gk (v:= .slice A1 rs.length c1) 15 rfl kT (fun _ VW=>(aj rfl rfl (aA Tryz.underlying50 rfl (St.cl 2 VW rfl nX)))) ?_;obtain ⟨b34,o35,rfl⟩:=Rd.addr (St.ord 3 kT rfl) (by omega);obtain ⟨GY,alY⟩:=FK 0 (St.ord 3 kT rfl) (by omega);refine gk 16 rfl kT (fun _ _=>gM 0) ?_;refine gk (v:= .agg #[iV GY.no,iV GY.body]) 17 rfl kT (fun _ aho=>(aj rfl rfl (aG (cs:=fP.cells GY) Tryz.underlying88 rfl Cu rfl (Rd.uN (St.ord 3 aho rfl) (fun _ _ h=>bS (enc:=fP.cells) (sz:=2) (fun _=>rfl) alY h))))) ?_;refine gk (v:= .agg #[iV ep,iV gv,iV GY.no,iV GY.body]) 18 rfl kT (fun _ _=>gZ) ?_;refine gW (m:=1) (r:=19) (by kernel_rfl) ?_;refine kS (i:=19) rfl rfl (V:=fun b=>pV b 0) (row:= #[iV 0,iV 0,iV 0,iV 0]) (t:=90) kT (wn rfl) rfl rfl (iN rfl (Tryz.zeroValue90 _) rfl) ?_;intro b41 Ux tu;refine iP ?_;refine eF (by kernel_rfl) rfl rfl rfl ?_;refine sa 0 tu EB ?_;intro L9 mW;refine zQ ?_;refine je ?_;iterate 8 refine zQ ?_
 refine vv (aj rfl rfl (aA Tryz.underlying50 rfl (St.cl 3 mW rfl nX))) ?_;have hcp:=cO (mW.own 4 rfl);obtain ⟨A46,atq,atr,att⟩:=yP (P:=Tryz.prog) (t:=50) (s:=2) (A:=(aD b34 o35)) (n:=rs.length) (c:=c1) (lo:=some (iV 1)) (hi:=none) (mx:=none) (l:=1) (k:=rs.length) (q:=c1) Tryz.underlying50 Cu (ab0 1 rfl (by omega)) (by omega) (Nat.le_refl _) (by omega);refine vv (v:= .slice A46 (rs.length-1) (c1-1)) (jq rfl rfl (iI rfl) mD mD (atq _)) ?_;have rO:=mW.seal 4 rfl (aaT (atr _ _ _ (St.ord 4 mW rfl))) (fun a h=>att a h);iterate 3 refine zQ ?_
 refine iU 3 rO LM ?_ (hs:=by exact ET);intro Zq oF;iterate 3 refine zQ ?_
 have vG:=oF.drew;refine fG 13 9 vG [5] ?_;iterate 5 refine iP ?_
 refine gk (v:= .slice A2 ls.length c2) 5 rfl (St.del 5 vG) (fun _ VX=>(aj rfl rfl (aA Tryz.underlying51 rfl (St.cl 3 VX rfl rA)))) ?_;refine iP ?_;refine gW (m:=5) (r:=7) (by kernel_rfl) ?_;refine kS (i:=7) rfl rfl (V:=fun b=> .slice (aD b 0) 1 1) (row:= #[iV ep,iV gv,iV GY.no,iV GY.body]) (t:=90) vG (wn rfl) rfl rfl (aK (vs:=[(0,.agg #[iV ep,iV gv,iV GY.no,iV GY.body])]) rfl ⟨rfl,rfl,trivial⟩ (by kernel_rfl)) ?_;intro b61 VY uO;refine iP ?_;refine gW (m:=4) (r:=8) (by kernel_rfl) ?_;refine jW (i:=8) rfl rfl (news:=[iV ep,iV gv,iV GY.no,iV GY.body]) (xs':=(ls++[(⟨ep,gv,GY⟩:Ls)]).flatMap Ls.cells) 6 uO (wn rfl) rfl rfl rfl rfl rfl rfl (St.iG (xs:=[iV ep,iV gv,iV GY.no,iV GY.body]) 0 uO rfl rfl rfl) Tryz.underlying51 Zf rfl (by decide) (bZ rfl) (by simp only [maxLen];omega) (by omega) (jZ (enc:=Ls.cells) rfl rfl) ?_;intro A64 c65 NP aBM aBN oN;refine iP ?_;refine eF (by kernel_rfl) rfl rfl rfl ?_;iterate 3 refine zQ ?_
 refine iU 4 oN LP ?_ (hs:=by exact EU);intro UA qh;refine zQ ?_;refine je ?_;iterate 7 refine zQ ?_
 refine vv (aj rfl rfl (aA Tryz.underlying3 rfl (St.cl 4 qh rfl yE))) ?_;refine vv (v:=iV (gv+1)) jv ?_;iterate 3 refine zQ ?_
 refine iU 4 qh fM ?_ (hs:=by exact Uv);intro VZ qL;iterate 5 refine zQ ?_
 refine vv (aj rfl rfl (aG (cs:=[iV ep,iV gv]) Tryz.underlying73 rfl LQ rfl (St.rg 1 qL rfl (mR (x:=0) (m:=2) rfl)))) ?_;iterate 3 refine zQ ?_
 refine vv (v:= .agg #[iV 0,iV ep,iV gv,iV GY.body]) gZ ?_;refine sa 2 qL dh ?_;intro UC vH;iterate 5 refine zQ ?_
 have FP:=vH.aR [3,2,1,0];have CB:=FP.aZ 2 rfl;have hl1:(rs.drop 1).length=rs.length-1:=by simp
 have hl2:(ls++[(⟨ep,gv,GY⟩:Ls)]).length=ls.length+1:=by simp
 rw [akj alY h2];refine ⟨rfl,A46,(c1-1),A64,c65,?_⟩;dsimp only;rw [hl1,hl2];exact CB
section
variable {P:Program} {N:Nat} {l l':Slots} {w w' w0:World} {ops:Array Oper} {o:Oper} {rest:List Oper} {Q:Exit→Act→World→Prop} {d B:Nat} {v p:Value} {fs fs':List Fact} {b m f:Nat} {row row' cs:Array Value} {t ty:TypeId} {x y:Operand}
theorem saq (i:Nat) (S:St B w0 w fs) (hz:(P.info? ty).map (·.size)=some m) (h: ∀ w',St B w0 w' fs'→wL P N ops Q rest l w') (hw:o.guard=none:=by exact rfl) (hd:o.dst=none:=by exact rfl) (ho:o.op= .store ty x y:=by exact rfl)
  (hx:ev l x=some (.pointer (some ⟨b,0,none⟩)):=by exact rfl) (hy:ev l y=some v:=by exact rfl) (hi:fs[i]? =some (.blk b row t):=by exact rfl) (hv:v.cells=cs:=by exact rfl) (hm:cs.size=m:=by exact rfl)
  (h1: ∀ u∈cs.toList,u.oneCell'=true:=by exact Gc rfl rfl) (hr:Nat.ble m row.size=true:=by exact rfl) (hs:row.size=cs.size:=by exact rfl) (hf:iy (.blk b cs t) fs i fs':=by repeat' first | exact iy.z | apply iy.s):wL P N ops Q (o::rest) l w:=
 EA i S (wn hw) hd ho hx hy hi hv hz hm h1 (by rw [Nat.zero_add];exact Nat.le_of_ble_eq_true hr) (pU hs) hf.eq h
theorem UD {C:World→Prop} {n:Nat} {listed listed':Array Bool} (j:Nat) (hi':ops[j]? =some o) (i:Nat) (S:St B w0 w fs) (hz:(P.info? ty).map (·.size)=some m) (h: ∀ w',St B w0 w' fs'→C w'∧wA P N ops Q C n listed' l w') (hl:listed.setIfInBounds j true=listed':=by exact rfl)
  (hw:o.guard=none:=by exact rfl) (hd:o.dst=none:=by exact rfl) (ho:o.op= .store ty x y:=by exact rfl) (hx:ev l x=some (.pointer (some ⟨b,0,none⟩)):=by exact rfl) (hy:ev l y=some v:=by exact rfl) (hi:fs[i]? =some (.blk b row t):=by exact rfl) (hv:v.cells=cs:=by exact rfl)
  (hm:cs.size=m:=by exact rfl) (h1: ∀ u∈cs.toList,u.oneCell'=true:=by exact Gc rfl rfl) (hr:Nat.ble m row.size=true:=by exact rfl) (hs:row.size=cs.size:=by exact rfl) (hf:iy (.blk b cs t) fs i fs':=by repeat' first | exact iy.z | apply iy.s):wK P N ops Q C n j listed l w:=
 rY hi' hl i S (wn hw) hd ho hx hy hi hv hz hm h1 (by rw [Nat.zero_add];exact Nat.le_of_ble_eq_true hr) (pU hs) hf.eq h
end
theorem Jb (A:Option Addr) (n c:Nat) (l:List Value) (w:World) (h:Rd w w.heap.size 6 A n l) (hone: ∀ u∈l,u.oneCell'=true) (hc:n*64≤reachBytes):
    Calls Tryz.prog 105 #[.slice A n c] w (iM w 42 6 n l):=by
 unfold reachBytes at hc;have S:=(St.start w).bH h;refine fE 8 Tryz.func105 ?_;refine cw [0] ?_;iterate 9 refine zQ ?_
 cases A with
 | none=>
  obtain ⟨rfl,rfl⟩:=EX h;refine vv (v:= .bool true) (ah rfl rfl rfl (uf Tryz.underlying43)) ?_;iterate 11 refine zQ ?_
  exact iM.of (Below.refl _ _) (iw _ _ _ _)
 | some a=>
  refine vv (v:= .bool false) (ah rfl rfl rfl (uf Tryz.underlying43)) ?_;iterate 7 refine zQ ?_
  refine rX (V:=fun b=> .slice (aD b 0) 0 0) (row:= #[]) (t:=42) (n:=0) (s:=6) (xs:=[]) S (wn rfl) rfl rfl (aK (vs:=[]) rfl trivial (by kernel_rfl)) (by simp) (Nat.zero_le _) rfl ?_;intro b1 w2 S3;refine zQ ?_;refine dB (news:=l) (xs':=l) 0 S3 (wn rfl) rfl rfl rfl rfl rfl rfl (St.rd 1 S3 rfl) Tryz.underlying43 ajl rfl (by decide) hone (by simp only [maxLen];omega) (by omega) rfl ?_;intro A4 c5 w6 hc8 oZ S7;iterate 5 refine zQ ?_
  have jE:=S7.aR [1];have ho:=jE.own 0 rfl;simp only [Nat.zero_add] at ho⊢;exact iM.of jE.low ho
theorem St.dD {B:Nat} {w0 w:World} {fs:List Fact} {b n s:Nat} {row:Array Value} {t:TypeId} {xs:List Value} (i:Nat) (S:St B w0 w fs) (hi:fs[i]? =some (.blk b row t)) (hx:row.toList=xs) (hl:xs.length=n*s):St B w0 w (fs.set i (.bG s (some ⟨b,0,none⟩) n xs)):=
 St.turn i S hi S.low (Nat.le_refl _) (fun _ _ _=>rfl) ⟨St.iG i S hi hx hl,fun a h=>by cases h;exact ⟨St.ge i S hi,St.lt i S hi⟩⟩ (fun k hk=> .inl hk)
def cZ (g:Nat) (p:Nat×Int):List Value:=[.pointer (some ⟨g,p.1,none⟩),.int .i64 p.2]
def aI (kd ek:Int):ByteArray:=
 if kd=1 then ⟨#[109,97,107,101]⟩ else if kd=10 then ⟨#[109,111,118,101]⟩ else if kd=3 then ⟨#[115,116,101,112]⟩ else if kd=9 then ⟨#[115,116,97,114,116]⟩ else if kd=8 then ⟨#[99,114,97,115,104]⟩
 else if kd=4 then ⟨#[99,97,114,114,121]⟩ else if kd=5 then ⟨#[108,111,115,101]⟩ else if kd=6 then ⟨#[100,111,117,98,108,101]⟩ else if kd=7 then ⟨#[97,108,108]⟩
 else if kd=2 then (if ek=1 then ⟨#[112,117,98,108,105,115,104]⟩ else if ek=2 then ⟨#[114,101,99,101,105,118,101]⟩ else if ek=3 then ⟨#[97,99,107]⟩ else ⟨#[]⟩) else ⟨#[]⟩
def aaU (w:World) (g:Nat) (u:ByteArray) (r:Option (List (Nat×Int))) (e:Ending) (w':World):Prop:=match r with
 | none=>e= .returned (.tuple #[.string u,.slice none 0 0,.bool false])∧Below w.heap.size w w'
 | some l=> ∃ A,e= .returned (.tuple #[.string u,.slice A l.length l.length,.bool true])∧St w.heap.size w w' [.bG 2 A l.length (l.flatMap (cZ g))]
section
variable {P:Program} {w:World} {t:TypeId} {xo yo:Operand}
theorem aB {a b:ByteArray} {q:Bool} (h:(a.toList==b.toList)=q):(do eqGuard .eql t xo yo (.string a) (.string b);binOp .eql t (.string a) (.string b):Sem Value).run P w= .ok (.bool q) w:=by
 subst h;simp [binOp,eqGuard_at_string,go_sem,Op.stringOp]
end
theorem akn (kd ek:Int) (l:List (Nat×Int)) (h:aX kd ek=some l):((aI kd ek).toList==(⟨#[]⟩:ByteArray).toList)=false:=by
 rcases kinds kd ek with rfl | rfl | rfl | rfl | rfl | rfl | rfl | rfl | rfl | ⟨rfl,rfl⟩ | ⟨rfl,rfl⟩ | ⟨rfl,rfl⟩ | hn
 all_goals first | (rw [hn] at h;cases h;done) | kernel_rfl
theorem ako (kd ek:Int) (h:aX kd ek=none):aI kd ek=⟨#[]⟩:=by
 have h1:kd≠1:=fun e=>by subst e;cases h
 have h10:kd≠10:=fun e=>by subst e;cases h
 have h3:kd≠3:=fun e=>by subst e;cases h
 have h9:kd≠9:=fun e=>by subst e;cases h
 have h8:kd≠8:=fun e=>by subst e;cases h
 have h4:kd≠4:=fun e=>by subst e;cases h
 have h5:kd≠5:=fun e=>by subst e;cases h
 have h6:kd≠6:=fun e=>by subst e;cases h
 have h7:kd≠7:=fun e=>by subst e;cases h
 unfold aI;rw [if_neg h1,if_neg h10,if_neg h3,if_neg h9,if_neg h8,if_neg h4,if_neg h5,if_neg h6,if_neg h7];by_cases h2:kd=2
 ·subst h2;have e1:ek≠1:=fun e=>by subst e;cases h
  have e2:ek≠2:=fun e=>by subst e;cases h
  have e3:ek≠3:=fun e=>by subst e;cases h
  rw [if_pos rfl,if_neg e1,if_neg e2,if_neg e3]
 rw [if_neg h2]
def aeT (w:World) (u:ByteArray) (e:Ending) (w':World):Prop:=e= .returned (.string u)∧Below w.heap.size w w'
def ab7 (x:Ac) (p:Nat×Int):List Value:=[.int .i64 (x.get p.1)]
def YI (p:Nat×Int):List Value:=[.int .i64 p.2]
theorem Ac.agp (x:Ac) {i:Nat} (h:i<11):x.cells.toArray[i]? =some (.int .i64 (x.get i)):=by rw [List.getElem?_toArray];exact x.cell h
def aeU (w:World) (x:Ac) (l:List (Nat×Int)) (e:Ending) (w':World):Prop:= ∃ A A',e= .returned (.tuple #[.slice A l.length l.length,.slice A' l.length l.length])∧
 St w.heap.size w w' [.bG 1 A l.length (l.flatMap (ab7 x)),.bG 1 A' l.length (l.flatMap YI)]
def akp (w:World) (y:Ac) (e:Ending) (w':World):Prop:=e= .returned (.agg y.cells.toArray)∧Below w.heap.size w w'
theorem bA (x:Ac) (w:World):
    Calls Tryz.prog 79 #[.agg #[iV x.kd,iV x.nd,iV x.qu,iV x.at_,iV x.kp,iV x.ek,iV x.ep,iV x.ei,iV x.eb,iV x.eh,iV x.en]] w (aeT w (aI x.kd x.ek)):=by
 have S:=St.start w;refine fE 50 Tryz.func79 ?_;refine cw [0] ?_;iterate 2 refine zQ ?_
 refine gD S ?_;intro b1 w2 S3;iterate 13 refine zQ ?_
 by_cases h4:x.kd=1
 ·iterate 14 refine zQ ?_
  rw [show aI x.kd x.ek=⟨#[109,97,107,101]⟩ from by simp [aI,h4]];exact ⟨rfl,S3.low⟩
 iterate 7 refine zQ ?_
 by_cases h5:x.kd=10
 ·iterate 14 refine zQ ?_
  rw [show aI x.kd x.ek=⟨#[109,111,118,101]⟩ from by simp [aI,h4,h5]];exact ⟨rfl,S3.low⟩
 iterate 7 refine zQ ?_
 by_cases h6:x.kd=3
 ·iterate 14 refine zQ ?_
  rw [show aI x.kd x.ek=⟨#[115,116,101,112]⟩ from by simp [aI,h4,h5,h6]];exact ⟨rfl,S3.low⟩
 iterate 7 refine zQ ?_
 by_cases h7:x.kd=9
 ·iterate 14 refine zQ ?_
  rw [show aI x.kd x.ek=⟨#[115,116,97,114,116]⟩ from by simp [aI,h4,h5,h6,h7]];exact ⟨rfl,S3.low⟩
 iterate 7 refine zQ ?_
 by_cases h8:x.kd=8
 ·iterate 14 refine zQ ?_
  rw [show aI x.kd x.ek=⟨#[99,114,97,115,104]⟩ from by simp [aI,h4,h5,h6,h7,h8]];exact ⟨rfl,S3.low⟩
 iterate 7 refine zQ ?_
 by_cases h9:x.kd=4
 ·iterate 14 refine zQ ?_
  rw [show aI x.kd x.ek=⟨#[99,97,114,114,121]⟩ from by simp [aI,h4,h5,h6,h7,h8,h9]];exact ⟨rfl,S3.low⟩
 iterate 7 refine zQ ?_
 by_cases h10:x.kd=5
 ·iterate 14 refine zQ ?_
  rw [show aI x.kd x.ek=⟨#[108,111,115,101]⟩ from by simp [aI,h4,h5,h6,h7,h8,h9,h10]];exact ⟨rfl,S3.low⟩
 iterate 7 refine zQ ?_
 by_cases h11:x.kd=6
 ·iterate 14 refine zQ ?_
  rw [show aI x.kd x.ek=⟨#[100,111,117,98,108,101]⟩ from by simp [aI,h4,h5,h6,h7,h8,h9,h10,h11]];exact ⟨rfl,S3.low⟩
 iterate 7 refine zQ ?_
 by_cases h12:x.kd=7
 ·iterate 14 refine zQ ?_
  rw [show aI x.kd x.ek=⟨#[97,108,108]⟩ from by simp [aI,h4,h5,h6,h7,h8,h9,h10,h11,h12]];exact ⟨rfl,S3.low⟩
 iterate 13 refine zQ ?_
 by_cases iQ:x.kd=2
 ·iterate 5 refine zQ ?_
  by_cases Zr:x.ek=1
  ·iterate 13 refine zQ ?_
   rw [show aI x.kd x.ek=⟨#[112,117,98,108,105,115,104]⟩ from by simp [aI,h4,h5,h6,h7,h8,h9,h10,h11,h12,iQ,Zr]];exact ⟨rfl,S3.low⟩
  iterate 17 refine zQ ?_
  by_cases V3:x.ek=2
  ·iterate 13 refine zQ ?_
   rw [show aI x.kd x.ek=⟨#[114,101,99,101,105,118,101]⟩ from by simp [aI,h4,h5,h6,h7,h8,h9,h10,h11,h12,iQ,Zr,V3]];exact ⟨rfl,S3.low⟩
  iterate 17 refine zQ ?_
  by_cases h16:x.ek=3
  ·iterate 13 refine zQ ?_
   rw [show aI x.kd x.ek=⟨#[97,99,107]⟩ from by simp [aI,h4,h5,h6,h7,h8,h9,h10,h11,h12,iQ,Zr,V3,h16]];exact ⟨rfl,S3.low⟩
  iterate 14 refine zQ ?_
  rw [show aI x.kd x.ek=⟨#[]⟩ from by simp [aI,h4,h5,h6,h7,h8,h9,h10,h11,h12,iQ,Zr,V3,h16]];exact ⟨rfl,S3.low⟩
 iterate 53 refine zQ ?_
 rw [show aI x.kd x.ek=⟨#[]⟩ from by simp [aI,h4,h5,h6,h7,h8,h9,h10,h11,h12,iQ]];exact ⟨rfl,S3.low⟩
theorem DN (x:Ac) (l:List (Nat×Int)) (hf:aX x.kd x.ek=some l) (w:World):
    Calls Tryz.prog 80 #[.agg #[iV x.kd,iV x.nd,iV x.qu,iV x.at_,iV x.kp,iV x.ek,iV x.ep,iV x.ei,iV x.eb,iV x.eh,iV x.en]] w (aeU w x l):=by
 have S:=St.start w;refine fE 79 Tryz.func80 ?_;refine cw [0] ?_;iterate 2 refine zQ ?_
 refine gD S ?_;intro b1 w2 S3;iterate 6 refine zQ ?_
 rcases kinds x.kd x.ek with hk | hk | hk | hk | hk | hk | hk | hk | hk | ⟨hk,hek⟩ | ⟨hk,hek⟩ | ⟨hk,hek⟩ | hn
 ·have hl:=hf;simp [aX,hk] at hl;subst hl;have HW:=fun w=>bA x w
  rw [show aI x.kd x.ek=⟨#[109,97,107,101]⟩ from by simp [aI,hk]] at HW;iterate 2 refine zQ ?_
  refine cab gU S3 (HW _) ?_;intro w4 S5;iterate 6 refine zQ ?_
  refine vv (v:= .bool true) (ah rfl rfl rfl (aB (by kernel_rfl))) ?_;iterate 13 refine zQ ?_
  refine gV (V:=fun b=> .slice (aD b 0) 2 2) (row:= #[iV x.qu,iV x.nd]) (t:=3) S5 (wn rfl) rfl rfl (aK (vs:=[(0,iV x.qu),(1,iV x.nd)]) rfl ⟨rfl,rfl,rfl,rfl,trivial⟩ (by kernel_rfl)) ?_;intro b7 w8 S9;refine gV (V:=fun b=> .slice (aD b 0) 2 2) (row:= #[iV 3,iV 4]) (t:=3) S9 (wn rfl) rfl rfl (aK (vs:=[(0,iV 3),(1,iV 4)]) rfl ⟨rfl,rfl,rfl,rfl,trivial⟩ (by kernel_rfl)) ?_;intro b10 Ee lq;iterate 8 refine zQ ?_
  have qK:=lq.aR [2];have jH:St w.heap.size w Ee [_,_]:=qK.re [1,0] (by decide);have S9:=St.dD (s:=1) (n:=2) (xs:=[iV x.qu,iV x.nd]) 0 jH rfl rfl rfl;have jE:=St.dD (s:=1) (n:=2) (xs:=[iV 3,iV 4]) 1 S9 rfl rfl rfl;exact ⟨_,_,rfl,jE⟩
 ·have hl:=hf;simp [aX,hk] at hl;subst hl;have HW:=fun w=>bA x w
  rw [show aI x.kd x.ek=⟨#[109,111,118,101]⟩ from by simp [aI,hk]] at HW;iterate 2 refine zQ ?_
  refine cab gU S3 (HW _) ?_;intro FR jR;iterate 6 refine zQ ?_
  refine vv (v:= .bool false) (ah rfl rfl rfl (aB (by kernel_rfl))) ?_;iterate 5 refine zQ ?_
  refine vv (v:= .bool true) (ah rfl rfl rfl (aB (by kernel_rfl))) ?_;iterate 10 refine zQ ?_
  refine gV (V:=fun b=> .slice (aD b 0) 2 2) (row:= #[iV x.qu,iV x.nd]) (t:=3) jR (wn rfl) rfl rfl (aK (vs:=[(0,iV x.qu),(1,iV x.nd)]) rfl ⟨rfl,rfl,rfl,rfl,trivial⟩ (by kernel_rfl)) ?_;intro b18 zJ kr;refine gV (V:=fun b=> .slice (aD b 0) 2 2) (row:= #[iV 3,iV 4]) (t:=3) kr (wn rfl) rfl rfl (aK (vs:=[(0,iV 3),(1,iV 4)]) rfl ⟨rfl,rfl,rfl,rfl,trivial⟩ (by kernel_rfl)) ?_;intro b21 Qs mE;iterate 8 refine zQ ?_
  have jB:=mE.aR [2];have iX:St w.heap.size w Qs [_,_]:=jB.re [1,0] (by decide);have S9:=St.dD (s:=1) (n:=2) (xs:=[iV x.qu,iV x.nd]) 0 iX rfl rfl rfl;have jE:=St.dD (s:=1) (n:=2) (xs:=[iV 3,iV 4]) 1 S9 rfl rfl rfl;exact ⟨_,_,rfl,jE⟩
 ·have hl:=hf;simp [aX,hk] at hl;subst hl;have HW:=fun w=>bA x w
  rw [show aI x.kd x.ek=⟨#[115,116,101,112]⟩ from by simp [aI,hk]] at HW;iterate 2 refine zQ ?_
  refine cab gU S3 (HW _) ?_;intro IQ qJ;iterate 6 refine zQ ?_
  refine vv (v:= .bool false) (ah rfl rfl rfl (aB (by kernel_rfl))) ?_;iterate 5 refine zQ ?_
  refine vv (v:= .bool false) (ah rfl rfl rfl (aB (by kernel_rfl))) ?_;iterate 7 refine zQ ?_
  refine vv (v:= .bool true) (ah rfl rfl rfl (aB (by kernel_rfl))) ?_;iterate 11 refine zQ ?_
  refine FL qJ ?_;intro b29 V4 mF;refine FL mF ?_;intro b32 Qp oD;iterate 8 refine zQ ?_
  have kC:=oD.aR [2];have nL:St w.heap.size w Qp [_,_]:=kC.re [1,0] (by decide);have S9:=St.dD (s:=1) (n:=1) (xs:=[iV x.nd]) 0 nL rfl rfl rfl;have jE:=St.dD (s:=1) (n:=1) (xs:=[iV 4]) 1 S9 rfl rfl rfl;exact ⟨_,_,rfl,jE⟩
 ·have hl:=hf;simp [aX,hk] at hl;subst hl;have HW:=fun w=>bA x w
  rw [show aI x.kd x.ek=⟨#[115,116,97,114,116]⟩ from by simp [aI,hk]] at HW;iterate 2 refine zQ ?_
  refine cab gU S3 (HW _) ?_;intro NQ oG;iterate 6 refine zQ ?_
  refine vv (v:= .bool false) (ah rfl rfl rfl (aB (by kernel_rfl))) ?_;iterate 5 refine zQ ?_
  refine vv (v:= .bool false) (ah rfl rfl rfl (aB (by kernel_rfl))) ?_;iterate 7 refine zQ ?_
  refine vv (v:= .bool false) (ah rfl rfl rfl (aB (by kernel_rfl))) ?_;iterate 5 refine zQ ?_
  refine vv (v:= .bool true) (ah rfl rfl rfl (aB (by kernel_rfl))) ?_;iterate 8 refine zQ ?_
  refine FL oG ?_;intro b40 Zt tC;refine FL tC ?_;intro b43 L9 mW;iterate 8 refine zQ ?_
  have qj:=mW.aR [2];have uy:St w.heap.size w L9 [_,_]:=qj.re [1,0] (by decide);have S9:=St.dD (s:=1) (n:=1) (xs:=[iV x.nd]) 0 uy rfl rfl rfl;have jE:=St.dD (s:=1) (n:=1) (xs:=[iV 4]) 1 S9 rfl rfl rfl;exact ⟨_,_,rfl,jE⟩
 ·have hl:=hf;simp [aX,hk] at hl;subst hl;have HW:=fun w=>bA x w
  rw [show aI x.kd x.ek=⟨#[99,114,97,115,104]⟩ from by simp [aI,hk]] at HW;iterate 2 refine zQ ?_
  refine cab gU S3 (HW _) ?_;intro UE sD;iterate 6 refine zQ ?_
  refine vv (v:= .bool false) (ah rfl rfl rfl (aB (by kernel_rfl))) ?_;iterate 5 refine zQ ?_
  refine vv (v:= .bool false) (ah rfl rfl rfl (aB (by kernel_rfl))) ?_;iterate 7 refine zQ ?_
  refine vv (v:= .bool false) (ah rfl rfl rfl (aB (by kernel_rfl))) ?_;iterate 5 refine zQ ?_
  refine vv (v:= .bool false) (ah rfl rfl rfl (aB (by kernel_rfl))) ?_;iterate 6 refine zQ ?_
  refine vv (v:= .bool true) (ah rfl rfl rfl (aB (by kernel_rfl))) ?_;iterate 10 refine zQ ?_
  refine gV (V:=fun b=> .slice (aD b 0) 2 2) (row:= #[iV x.nd,iV x.kp]) (t:=3) sD (wn rfl) rfl rfl (aK (vs:=[(0,iV x.nd),(1,iV x.kp)]) rfl ⟨rfl,rfl,rfl,rfl,trivial⟩ (by kernel_rfl)) ?_;intro Zu w52 vG;refine gV (V:=fun b=> .slice (aD b 0) 2 2) (row:= #[iV 4,iV 100000]) (t:=3) vG (wn rfl) rfl rfl (aK (vs:=[(0,iV 4),(1,iV 100000)]) rfl ⟨rfl,rfl,rfl,rfl,trivial⟩ (by kernel_rfl)) ?_;intro b54 Zv yT;iterate 8 refine zQ ?_
  have sF:=yT.aR [2];have yU:St w.heap.size w Zv [_,_]:=sF.re [1,0] (by decide);have S9:=St.dD (s:=1) (n:=2) (xs:=[iV x.nd,iV x.kp]) 0 yU rfl rfl rfl;have jE:=St.dD (s:=1) (n:=2) (xs:=[iV 4,iV 100000]) 1 S9 rfl rfl rfl;exact ⟨_,_,rfl,jE⟩
 ·have hl:=hf;simp [aX,hk] at hl;subst hl;have HW:=fun w=>bA x w
  rw [show aI x.kd x.ek=⟨#[99,97,114,114,121]⟩ from by simp [aI,hk]] at HW;iterate 2 refine zQ ?_
  refine cab gU S3 (HW _) ?_;intro w59 Qt;iterate 6 refine zQ ?_
  refine vv (v:= .bool false) (ah rfl rfl rfl (aB (by kernel_rfl))) ?_;iterate 5 refine zQ ?_
  refine vv (v:= .bool false) (ah rfl rfl rfl (aB (by kernel_rfl))) ?_;iterate 7 refine zQ ?_
  refine vv (v:= .bool false) (ah rfl rfl rfl (aB (by kernel_rfl))) ?_;iterate 5 refine zQ ?_
  refine vv (v:= .bool false) (ah rfl rfl rfl (aB (by kernel_rfl))) ?_;iterate 6 refine zQ ?_
  refine vv (v:= .bool false) (ah rfl rfl rfl (aB (by kernel_rfl))) ?_;iterate 7 refine zQ ?_
  refine vv (v:= .bool true) (ah rfl rfl rfl (aB (by kernel_rfl))) ?_;iterate 11 refine zQ ?_
  refine FL Qt ?_;intro b62 w63 S64;refine FL S64 ?_;intro b65 NP oN;iterate 8 refine zQ ?_
  have uz:=oN.aR [2];have xg:St w.heap.size w NP [_,_]:=uz.re [1,0] (by decide);have S9:=St.dD (s:=1) (n:=1) (xs:=[iV x.at_]) 0 xg rfl rfl rfl;have jE:=St.dD (s:=1) (n:=1) (xs:=[iV 1048576]) 1 S9 rfl rfl rfl;exact ⟨_,_,rfl,jE⟩
 ·have hl:=hf;simp [aX,hk] at hl;subst hl;have HW:=fun w=>bA x w
  rw [show aI x.kd x.ek=⟨#[108,111,115,101]⟩ from by simp [aI,hk]] at HW;iterate 2 refine zQ ?_
  refine cab gU S3 (HW _) ?_;intro UA qh;iterate 6 refine zQ ?_
  refine vv (v:= .bool false) (ah rfl rfl rfl (aB (by kernel_rfl))) ?_;iterate 5 refine zQ ?_
  refine vv (v:= .bool false) (ah rfl rfl rfl (aB (by kernel_rfl))) ?_;iterate 7 refine zQ ?_
  refine vv (v:= .bool false) (ah rfl rfl rfl (aB (by kernel_rfl))) ?_;iterate 5 refine zQ ?_
  refine vv (v:= .bool false) (ah rfl rfl rfl (aB (by kernel_rfl))) ?_;iterate 6 refine zQ ?_
  refine vv (v:= .bool false) (ah rfl rfl rfl (aB (by kernel_rfl))) ?_;iterate 7 refine zQ ?_
  refine vv (v:= .bool false) (ah rfl rfl rfl (aB (by kernel_rfl))) ?_;iterate 6 refine zQ ?_
  refine vv (v:= .bool true) (ah rfl rfl rfl (aB (by kernel_rfl))) ?_;iterate 11 refine zQ ?_
  refine FL qh ?_;intro b73 UC vH;refine FL vH ?_;intro b76 UF Bg;iterate 8 refine zQ ?_
  have Aq:=Bg.aR [2];have xG:St w.heap.size w UF [_,_]:=Aq.re [1,0] (by decide);have S9:=St.dD (s:=1) (n:=1) (xs:=[iV x.at_]) 0 xG rfl rfl rfl;have jE:=St.dD (s:=1) (n:=1) (xs:=[iV 1048576]) 1 S9 rfl rfl rfl;exact ⟨_,_,rfl,jE⟩
 ·have hl:=hf;simp [aX,hk] at hl;subst hl;have HW:=fun w=>bA x w
  rw [show aI x.kd x.ek=⟨#[100,111,117,98,108,101]⟩ from by simp [aI,hk]] at HW;iterate 2 refine zQ ?_
  refine cab gU S3 (HW _) ?_;intro w81 UG;iterate 6 refine zQ ?_
  refine vv (v:= .bool false) (ah rfl rfl rfl (aB (by kernel_rfl))) ?_;iterate 5 refine zQ ?_
  refine vv (v:= .bool false) (ah rfl rfl rfl (aB (by kernel_rfl))) ?_;iterate 7 refine zQ ?_
  refine vv (v:= .bool false) (ah rfl rfl rfl (aB (by kernel_rfl))) ?_;iterate 5 refine zQ ?_
  refine vv (v:= .bool false) (ah rfl rfl rfl (aB (by kernel_rfl))) ?_;iterate 6 refine zQ ?_
  refine vv (v:= .bool false) (ah rfl rfl rfl (aB (by kernel_rfl))) ?_;iterate 7 refine zQ ?_
  refine vv (v:= .bool false) (ah rfl rfl rfl (aB (by kernel_rfl))) ?_;iterate 6 refine zQ ?_
  refine vv (v:= .bool false) (ah rfl rfl rfl (aB (by kernel_rfl))) ?_;iterate 5 refine zQ ?_
  refine vv (v:= .bool true) (ah rfl rfl rfl (aB (by kernel_rfl))) ?_;iterate 8 refine zQ ?_
  refine FL UG ?_;intro Zw Qu uh;refine FL uh ?_;intro b87 w88 FQ;iterate 8 refine zQ ?_
  have JO:=FQ.aR [2];have rP:St w.heap.size w w88 [_,_]:=JO.re [1,0] (by decide);have S9:=St.dD (s:=1) (n:=1) (xs:=[iV x.at_]) 0 rP rfl rfl rfl;have jE:=St.dD (s:=1) (n:=1) (xs:=[iV 1048576]) 1 S9 rfl rfl rfl;exact ⟨_,_,rfl,jE⟩
 ·have hl:=hf;simp [aX,hk] at hl;subst hl;have HW:=fun w=>bA x w
  rw [show aI x.kd x.ek=⟨#[97,108,108]⟩ from by simp [aI,hk]] at HW;iterate 2 refine zQ ?_
  refine cab gU S3 (HW _) ?_;intro w92 yR;iterate 6 refine zQ ?_
  refine vv (v:= .bool false) (ah rfl rfl rfl (aB (by kernel_rfl))) ?_;iterate 5 refine zQ ?_
  refine vv (v:= .bool false) (ah rfl rfl rfl (aB (by kernel_rfl))) ?_;iterate 7 refine zQ ?_
  refine vv (v:= .bool false) (ah rfl rfl rfl (aB (by kernel_rfl))) ?_;iterate 5 refine zQ ?_
  refine vv (v:= .bool false) (ah rfl rfl rfl (aB (by kernel_rfl))) ?_;iterate 6 refine zQ ?_
  refine vv (v:= .bool false) (ah rfl rfl rfl (aB (by kernel_rfl))) ?_;iterate 7 refine zQ ?_
  refine vv (v:= .bool false) (ah rfl rfl rfl (aB (by kernel_rfl))) ?_;iterate 6 refine zQ ?_
  refine vv (v:= .bool false) (ah rfl rfl rfl (aB (by kernel_rfl))) ?_;iterate 5 refine zQ ?_
  refine vv (v:= .bool false) (ah rfl rfl rfl (aB (by kernel_rfl))) ?_;iterate 6 refine zQ ?_
  refine vv (v:= .bool false) (ah rfl rfl rfl (aB (by kernel_rfl))) ?_;iterate 6 refine zQ ?_
  refine vv (v:= .bool false) (ah rfl rfl rfl (aB (by kernel_rfl))) ?_;iterate 6 refine zQ ?_
  refine vv (v:= .bool false) (ah rfl rfl rfl (aB (by kernel_rfl))) ?_;iterate 15 refine zQ ?_
  have Ef:=yR.aR [0];exact ⟨none,none,rfl,aJ (aJ Ef)⟩
 ·have hl:=hf;simp [aX,hk,hek] at hl;subst hl;have HW:=fun w=>bA x w
  rw [show aI x.kd x.ek=⟨#[112,117,98,108,105,115,104]⟩ from by simp [aI,hk,hek]] at HW;iterate 2 refine zQ ?_
  refine cab gU S3 (HW _) ?_;intro Qv uP;iterate 6 refine zQ ?_
  refine vv (v:= .bool false) (ah rfl rfl rfl (aB (by kernel_rfl))) ?_;iterate 5 refine zQ ?_
  refine vv (v:= .bool false) (ah rfl rfl rfl (aB (by kernel_rfl))) ?_;iterate 7 refine zQ ?_
  refine vv (v:= .bool false) (ah rfl rfl rfl (aB (by kernel_rfl))) ?_;iterate 5 refine zQ ?_
  refine vv (v:= .bool false) (ah rfl rfl rfl (aB (by kernel_rfl))) ?_;iterate 6 refine zQ ?_
  refine vv (v:= .bool false) (ah rfl rfl rfl (aB (by kernel_rfl))) ?_;iterate 7 refine zQ ?_
  refine vv (v:= .bool false) (ah rfl rfl rfl (aB (by kernel_rfl))) ?_;iterate 6 refine zQ ?_
  refine vv (v:= .bool false) (ah rfl rfl rfl (aB (by kernel_rfl))) ?_;iterate 5 refine zQ ?_
  refine vv (v:= .bool false) (ah rfl rfl rfl (aB (by kernel_rfl))) ?_;iterate 6 refine zQ ?_
  refine vv (v:= .bool true) (ah rfl rfl rfl (aB (by kernel_rfl))) ?_;iterate 19 refine zQ ?_
  refine gV (V:=fun b=> .slice (aD b 0) 5 5) (row:= #[iV x.nd,iV x.qu,iV x.ep,iV x.ei,iV x.eb]) (t:=3) uP (wn rfl) rfl rfl (aK (vs:=[(0,iV x.nd),(1,iV x.qu),(2,iV x.ep),(3,iV x.ei),(4,iV x.eb)]) rfl ⟨rfl,rfl,rfl,rfl,rfl,rfl,rfl,rfl,rfl,rfl,trivial⟩ (by kernel_rfl)) ?_;intro b99 V5 sG;refine gV (V:=fun b=> .slice (aD b 0) 5 5) (row:= #[iV 4,iV 3,iV 3,iV 1073741824,iV 1000000]) (t:=3) sG (wn rfl) rfl rfl (aK (vs:=[(0,iV 4),(1,iV 3),(2,iV 3),(3,iV 1073741824),(4,iV 1000000)]) rfl ⟨rfl,rfl,rfl,rfl,rfl,rfl,rfl,rfl,rfl,rfl,trivial⟩ (by kernel_rfl)) ?_;intro al2 ab8 qG;iterate 8 refine zQ ?_
  have lD:=qG.aR [2];have xL:St w.heap.size w ab8 [_,_]:=lD.re [1,0] (by decide);have S9:=St.dD (s:=1) (n:=5) (xs:=[iV x.nd,iV x.qu,iV x.ep,iV x.ei,iV x.eb]) 0 xL rfl rfl rfl;have jE:=St.dD (s:=1) (n:=5) (xs:=[iV 4,iV 3,iV 3,iV 1073741824,iV 1000000]) 1 S9 rfl rfl rfl;exact ⟨_,_,rfl,jE⟩
 ·have hl:=hf;simp [aX,hk,hek] at hl;subst hl;have HW:=fun w=>bA x w
  rw [show aI x.kd x.ek=⟨#[114,101,99,101,105,118,101]⟩ from by simp [aI,hk,hek]] at HW;iterate 2 refine zQ ?_
  refine cab gU S3 (HW _) ?_;intro al3 rC;iterate 6 refine zQ ?_
  refine vv (v:= .bool false) (ah rfl rfl rfl (aB (by kernel_rfl))) ?_;iterate 5 refine zQ ?_
  refine vv (v:= .bool false) (ah rfl rfl rfl (aB (by kernel_rfl))) ?_;iterate 7 refine zQ ?_
  refine vv (v:= .bool false) (ah rfl rfl rfl (aB (by kernel_rfl))) ?_;iterate 5 refine zQ ?_
  refine vv (v:= .bool false) (ah rfl rfl rfl (aB (by kernel_rfl))) ?_;iterate 6 refine zQ ?_
  refine vv (v:= .bool false) (ah rfl rfl rfl (aB (by kernel_rfl))) ?_;iterate 7 refine zQ ?_
  refine vv (v:= .bool false) (ah rfl rfl rfl (aB (by kernel_rfl))) ?_;iterate 6 refine zQ ?_
  refine vv (v:= .bool false) (ah rfl rfl rfl (aB (by kernel_rfl))) ?_;iterate 5 refine zQ ?_
  refine vv (v:= .bool false) (ah rfl rfl rfl (aB (by kernel_rfl))) ?_;iterate 6 refine zQ ?_
  refine vv (v:= .bool false) (ah rfl rfl rfl (aB (by kernel_rfl))) ?_;iterate 6 refine zQ ?_
  refine vv (v:= .bool true) (ah rfl rfl rfl (aB (by kernel_rfl))) ?_;iterate 10 refine zQ ?_
  refine gV (V:=fun b=> .slice (aD b 0) 2 2) (row:= #[iV x.nd,iV x.qu]) (t:=3) rC (wn rfl) rfl rfl (aK (vs:=[(0,iV x.nd),(1,iV x.qu)]) rfl ⟨rfl,rfl,rfl,rfl,trivial⟩ (by kernel_rfl)) ?_;intro b110 Q7 sH;refine gV (V:=fun b=> .slice (aD b 0) 2 2) (row:= #[iV 4,iV 3]) (t:=3) sH (wn rfl) rfl rfl (aK (vs:=[(0,iV 4),(1,iV 3)]) rfl ⟨rfl,rfl,rfl,rfl,trivial⟩ (by kernel_rfl)) ?_;intro aBO V6 ko;iterate 8 refine zQ ?_
  have uG:=ko.aR [2];have tT:St w.heap.size w V6 [_,_]:=uG.re [1,0] (by decide);have S9:=St.dD (s:=1) (n:=2) (xs:=[iV x.nd,iV x.qu]) 0 tT rfl rfl rfl;have jE:=St.dD (s:=1) (n:=2) (xs:=[iV 4,iV 3]) 1 S9 rfl rfl rfl;exact ⟨_,_,rfl,jE⟩
 ·have hl:=hf;simp [aX,hk,hek] at hl;subst hl;have HW:=fun w=>bA x w
  rw [show aI x.kd x.ek=⟨#[97,99,107]⟩ from by simp [aI,hk,hek]] at HW;iterate 2 refine zQ ?_
  refine cab gU S3 (HW _) ?_;intro JQ kX;iterate 6 refine zQ ?_
  refine vv (v:= .bool false) (ah rfl rfl rfl (aB (by kernel_rfl))) ?_;iterate 5 refine zQ ?_
  refine vv (v:= .bool false) (ah rfl rfl rfl (aB (by kernel_rfl))) ?_;iterate 7 refine zQ ?_
  refine vv (v:= .bool false) (ah rfl rfl rfl (aB (by kernel_rfl))) ?_;iterate 5 refine zQ ?_
  refine vv (v:= .bool false) (ah rfl rfl rfl (aB (by kernel_rfl))) ?_;iterate 6 refine zQ ?_
  refine vv (v:= .bool false) (ah rfl rfl rfl (aB (by kernel_rfl))) ?_;iterate 7 refine zQ ?_
  refine vv (v:= .bool false) (ah rfl rfl rfl (aB (by kernel_rfl))) ?_;iterate 6 refine zQ ?_
  refine vv (v:= .bool false) (ah rfl rfl rfl (aB (by kernel_rfl))) ?_;iterate 5 refine zQ ?_
  refine vv (v:= .bool false) (ah rfl rfl rfl (aB (by kernel_rfl))) ?_;iterate 6 refine zQ ?_
  refine vv (v:= .bool false) (ah rfl rfl rfl (aB (by kernel_rfl))) ?_;iterate 6 refine zQ ?_
  refine vv (v:= .bool false) (ah rfl rfl rfl (aB (by kernel_rfl))) ?_;iterate 6 refine zQ ?_
  refine vv (v:= .bool true) (ah rfl rfl rfl (aB (by kernel_rfl))) ?_;iterate 18 refine zQ ?_
  refine gV (V:=fun b=> .slice (aD b 0) 4 4) (row:= #[iV x.nd,iV x.qu,iV x.eh,iV x.en]) (t:=3) kX (wn rfl) rfl rfl (aK (vs:=[(0,iV x.nd),(1,iV x.qu),(2,iV x.eh),(3,iV x.en)]) rfl ⟨rfl,rfl,rfl,rfl,rfl,rfl,rfl,rfl,trivial⟩ (by kernel_rfl)) ?_;intro atu MX pz;refine gV (V:=fun b=> .slice (aD b 0) 4 4) (row:= #[iV 4,iV 3,iV 1048576,iV 1073741824]) (t:=3) pz (wn rfl) rfl rfl (aK (vs:=[(0,iV 4),(1,iV 3),(2,iV 1048576),(3,iV 1073741824)]) rfl ⟨rfl,rfl,rfl,rfl,rfl,rfl,rfl,rfl,trivial⟩ (by kernel_rfl)) ?_;intro al4 Q8 kH;iterate 8 refine zQ ?_
  have Ig:=kH.aR [2];have nM:St w.heap.size w Q8 [_,_]:=Ig.re [1,0] (by decide);have S9:=St.dD (s:=1) (n:=4) (xs:=[iV x.nd,iV x.qu,iV x.eh,iV x.en]) 0 nM rfl rfl rfl;have jE:=St.dD (s:=1) (n:=4) (xs:=[iV 4,iV 3,iV 1048576,iV 1073741824]) 1 S9 rfl rfl rfl;exact ⟨_,_,rfl,jE⟩
 rw [hn] at hf;cases hf
theorem Eh (x:Ac) (l:List (Nat×Int)) (hf:aX x.kd x.ek=some l) (A:Option Addr) (c:Nat) (w:World) (h:Rd w w.heap.size 1 A l.length (l.flatMap (ab7 x))):
    Calls Tryz.prog 82 #[.agg #[iV x.kd,iV x.nd,iV x.qu,iV x.at_,iV x.kp,iV x.ek,iV x.ep,iV x.ei,iV x.eb,iV x.eh,iV x.en],.slice A l.length c] w (akp w (keep x)):=by
 have S:=(St.start w).bH h;refine fE 99 Tryz.func82 ?_;refine cw [0,1] ?_;iterate 2 refine zQ ?_
 refine gD S ?_;intro b1 w2 S3;refine eU S3 ab5 ?_;intro b4 w5 S6;iterate 9 refine zQ ?_
 refine vv (v:= .agg #[iV x.ek,iV 0,iV 0,iV 0,iV 0,iV 0]) gZ ?_;refine vv (v:= .agg #[iV x.kd,iV 0,iV 0,iV 0,iV 0,iV x.ek,iV 0,iV 0,iV 0,iV 0,iV 0]) gZ ?_;refine eU S6 ab5 ?_;intro b7 w8 S9;refine sa 0 S9 jA ?_;intro Ma jQ;iterate 4 refine zQ ?_
 rcases kinds x.kd x.ek with hk | hk | hk | hk | hk | hk | hk | hk | hk | ⟨hk,hek⟩ | ⟨hk,hek⟩ | ⟨hk,hek⟩ | hn
 ·have hl:=hf;simp [aX,hk] at hl;subst hl;have HW:=fun w=>bA x w
  rw [show aI x.kd x.ek=⟨#[109,97,107,101]⟩ from by simp [aI,hk]] at HW;iterate 2 refine zQ ?_
  refine cab gU jQ (HW _) ?_;intro Qr qK;iterate 6 refine zQ ?_
  refine vv (v:= .bool true) (ah rfl rfl rfl (aB (by kernel_rfl))) ?_;iterate 10 refine zQ ?_
  obtain ⟨b15,o16,rfl⟩:=Rd.addr (St.rd 3 qK rfl) (by decide);refine vv (gM 0) ?_;refine vv (v:=iV x.qu) (aj rfl rfl (aA Tryz.underlying3 rfl (Rd.cl (j:=0) (St.rd 3 qK rfl) rfl))) ?_;refine zQ ?_;refine lQ 0 qK fM ?_;intro JR iD;iterate 4 refine zQ ?_
  refine vv (gM 1) ?_;refine vv (v:=iV x.nd) (aj rfl rfl (aA Tryz.underlying3 rfl (Rd.cl (j:=1) (St.rd 3 iD rfl) rfl))) ?_;refine zQ ?_;refine lQ 0 iD fM ?_;intro zJ kr;iterate 7 refine zQ ?_
  refine cab gU kr (HW _) ?_;intro Bh ig;refine vv (v:= .bool false) (ah rfl rfl rfl (aB (by kernel_rfl))) ?_;iterate 9 refine zQ ?_
  refine cab gU ig (HW _) ?_;intro JU iX;refine vv (v:= .bool false) (ah rfl rfl rfl (aB (by kernel_rfl))) ?_;iterate 17 refine zQ ?_
  refine lQ 0 iX fM ?_;intro JV qM;iterate 5 refine zQ ?_
  refine sa 1 qM jA ?_;intro V7 tF;iterate 4 refine zQ ?_
  rw [show keep x=⟨x.kd,x.nd,x.qu,0,0,0,0,0,0,0,0⟩ from by simp [keep,hk]];exact ⟨rfl,tF.low⟩
 ·have hl:=hf;simp [aX,hk] at hl;subst hl;have HW:=fun w=>bA x w
  rw [show aI x.kd x.ek=⟨#[109,111,118,101]⟩ from by simp [aI,hk]] at HW;iterate 2 refine zQ ?_
  refine cab gU jQ (HW _) ?_;intro Zx pE;iterate 6 refine zQ ?_
  refine vv (v:= .bool false) (ah rfl rfl rfl (aB (by kernel_rfl))) ?_;iterate 5 refine zQ ?_
  refine vv (v:= .bool true) (ah rfl rfl rfl (aB (by kernel_rfl))) ?_;iterate 7 refine zQ ?_
  obtain ⟨b34,o35,rfl⟩:=Rd.addr (St.rd 3 pE rfl) (by decide);refine vv (gM 0) ?_;refine vv (v:=iV x.qu) (aj rfl rfl (aA Tryz.underlying3 rfl (Rd.cl (j:=0) (St.rd 3 pE rfl) rfl))) ?_;refine zQ ?_;refine lQ 0 pE fM ?_;intro w36 qN;iterate 4 refine zQ ?_
  refine vv (gM 1) ?_;refine vv (v:=iV x.nd) (aj rfl rfl (aA Tryz.underlying3 rfl (Rd.cl (j:=1) (St.rd 3 qN rfl) rfl))) ?_;refine zQ ?_;refine lQ 0 qN fM ?_;intro Zy yV;iterate 7 refine zQ ?_
  refine cab gU yV (HW _) ?_;intro UH xU;refine vv (v:= .bool false) (ah rfl rfl rfl (aB (by kernel_rfl))) ?_;iterate 9 refine zQ ?_
  refine cab gU xU (HW _) ?_;intro w43 Ar;refine vv (v:= .bool false) (ah rfl rfl rfl (aB (by kernel_rfl))) ?_;iterate 17 refine zQ ?_
  refine lQ 0 Ar fM ?_;intro UJ uy;iterate 5 refine zQ ?_
  refine sa 1 uy jA ?_;intro UE sD;iterate 4 refine zQ ?_
  rw [show keep x=⟨x.kd,x.nd,x.qu,0,0,0,0,0,0,0,0⟩ from by simp [keep,hk]];exact ⟨rfl,sD.low⟩
 ·have hl:=hf;simp [aX,hk] at hl;subst hl;have HW:=fun w=>bA x w
  rw [show aI x.kd x.ek=⟨#[115,116,101,112]⟩ from by simp [aI,hk]] at HW;iterate 2 refine zQ ?_
  refine cab gU jQ (HW _) ?_;intro Qw sw;iterate 6 refine zQ ?_
  refine vv (v:= .bool false) (ah rfl rfl rfl (aB (by kernel_rfl))) ?_;iterate 5 refine zQ ?_
  refine vv (v:= .bool false) (ah rfl rfl rfl (aB (by kernel_rfl))) ?_;iterate 7 refine zQ ?_
  refine vv (v:= .bool true) (ah rfl rfl rfl (aB (by kernel_rfl))) ?_;iterate 9 refine zQ ?_
  obtain ⟨b53,o54,rfl⟩:=Rd.addr (St.rd 3 sw rfl) (by decide);refine vv (gM 0) ?_;refine vv (v:=iV x.nd) (aj rfl rfl (aA Tryz.underlying3 rfl (Rd.cl (j:=0) (St.rd 3 sw rfl) rfl))) ?_;refine zQ ?_;refine lQ 0 sw fM ?_;intro Zv yT;iterate 7 refine zQ ?_
  refine cab gU yT (HW _) ?_;intro w57 yU;refine vv (v:= .bool false) (ah rfl rfl rfl (aB (by kernel_rfl))) ?_;iterate 9 refine zQ ?_
  refine cab gU yU (HW _) ?_;intro Qx Au;refine vv (v:= .bool false) (ah rfl rfl rfl (aB (by kernel_rfl))) ?_;iterate 17 refine zQ ?_
  refine lQ 0 Au fM ?_;intro w63 S64;iterate 5 refine zQ ?_
  refine sa 1 S64 jA ?_;intro w65 Bj;iterate 4 refine zQ ?_
  rw [show keep x=⟨x.kd,x.nd,0,0,0,0,0,0,0,0,0⟩ from by simp [keep,hk]];exact ⟨rfl,Bj.low⟩
 ·have hl:=hf;simp [aX,hk] at hl;subst hl;have HW:=fun w=>bA x w
  rw [show aI x.kd x.ek=⟨#[115,116,97,114,116]⟩ from by simp [aI,hk]] at HW;iterate 2 refine zQ ?_
  refine cab gU jQ (HW _) ?_;intro w67 uz;iterate 6 refine zQ ?_
  refine vv (v:= .bool false) (ah rfl rfl rfl (aB (by kernel_rfl))) ?_;iterate 5 refine zQ ?_
  refine vv (v:= .bool false) (ah rfl rfl rfl (aB (by kernel_rfl))) ?_;iterate 7 refine zQ ?_
  refine vv (v:= .bool false) (ah rfl rfl rfl (aB (by kernel_rfl))) ?_;iterate 5 refine zQ ?_
  refine vv (v:= .bool true) (ah rfl rfl rfl (aB (by kernel_rfl))) ?_;iterate 6 refine zQ ?_
  obtain ⟨b70,o71,rfl⟩:=Rd.addr (St.rd 3 uz rfl) (by decide);refine vv (gM 0) ?_;refine vv (v:=iV x.nd) (aj rfl rfl (aA Tryz.underlying3 rfl (Rd.cl (j:=0) (St.rd 3 uz rfl) rfl))) ?_;refine zQ ?_;refine lQ 0 uz fM ?_;intro VZ qL;iterate 7 refine zQ ?_
  refine cab gU qL (HW _) ?_;intro UC vH;refine vv (v:= .bool false) (ah rfl rfl rfl (aB (by kernel_rfl))) ?_;iterate 9 refine zQ ?_
  refine cab gU vH (HW _) ?_;intro UF Bg;refine vv (v:= .bool false) (ah rfl rfl rfl (aB (by kernel_rfl))) ?_;iterate 17 refine zQ ?_
  refine lQ 0 Bg fM ?_;intro Mc pF;iterate 5 refine zQ ?_
  refine sa 1 pF jA ?_;intro w82 uj;iterate 4 refine zQ ?_
  rw [show keep x=⟨x.kd,x.nd,0,0,0,0,0,0,0,0,0⟩ from by simp [keep,hk]];exact ⟨rfl,uj.low⟩
 ·have hl:=hf;simp [aX,hk] at hl;subst hl;have HW:=fun w=>bA x w
  rw [show aI x.kd x.ek=⟨#[99,114,97,115,104]⟩ from by simp [aI,hk]] at HW;iterate 2 refine zQ ?_
  refine cab gU jQ (HW _) ?_;intro w84 Bl;iterate 6 refine zQ ?_
  refine vv (v:= .bool false) (ah rfl rfl rfl (aB (by kernel_rfl))) ?_;iterate 5 refine zQ ?_
  refine vv (v:= .bool false) (ah rfl rfl rfl (aB (by kernel_rfl))) ?_;iterate 7 refine zQ ?_
  refine vv (v:= .bool false) (ah rfl rfl rfl (aB (by kernel_rfl))) ?_;iterate 5 refine zQ ?_
  refine vv (v:= .bool false) (ah rfl rfl rfl (aB (by kernel_rfl))) ?_;iterate 6 refine zQ ?_
  refine vv (v:= .bool true) (ah rfl rfl rfl (aB (by kernel_rfl))) ?_;iterate 7 refine zQ ?_
  obtain ⟨b87,o88,rfl⟩:=Rd.addr (St.rd 3 Bl rfl) (by decide);refine vv (gM 0) ?_;refine vv (v:=iV x.nd) (aj rfl rfl (aA Tryz.underlying3 rfl (Rd.cl (j:=0) (St.rd 3 Bl rfl) rfl))) ?_;refine zQ ?_;refine lQ 0 Bl fM ?_;intro w89 JO;iterate 4 refine zQ ?_
  refine vv (gM 1) ?_;refine vv (v:=iV x.kp) (aj rfl rfl (aA Tryz.underlying3 rfl (Rd.cl (j:=1) (St.rd 3 JO rfl) rfl))) ?_;refine zQ ?_;refine lQ 0 JO fM ?_;intro Zz vI;iterate 7 refine zQ ?_
  refine cab gU vI (HW _) ?_;intro w93 CF;refine vv (v:= .bool false) (ah rfl rfl rfl (aB (by kernel_rfl))) ?_;iterate 9 refine zQ ?_
  refine cab gU CF (HW _) ?_;intro Qv uP;refine vv (v:= .bool false) (ah rfl rfl rfl (aB (by kernel_rfl))) ?_;iterate 17 refine zQ ?_
  refine lQ 0 uP fM ?_;intro w99 oJ;iterate 5 refine zQ ?_
  refine sa 1 oJ jA ?_;intro ahp pG;iterate 4 refine zQ ?_
  rw [show keep x=⟨x.kd,x.nd,0,0,x.kp,0,0,0,0,0,0⟩ from by simp [keep,hk]];exact ⟨rfl,pG.low⟩
 ·have hl:=hf;simp [aX,hk] at hl;subst hl;have HW:=fun w=>bA x w
  rw [show aI x.kd x.ek=⟨#[99,97,114,114,121]⟩ from by simp [aI,hk]] at HW;iterate 2 refine zQ ?_
  refine cab gU jQ (HW _) ?_;intro ab8 qG;iterate 6 refine zQ ?_
  refine vv (v:= .bool false) (ah rfl rfl rfl (aB (by kernel_rfl))) ?_;iterate 5 refine zQ ?_
  refine vv (v:= .bool false) (ah rfl rfl rfl (aB (by kernel_rfl))) ?_;iterate 7 refine zQ ?_
  refine vv (v:= .bool false) (ah rfl rfl rfl (aB (by kernel_rfl))) ?_;iterate 5 refine zQ ?_
  refine vv (v:= .bool false) (ah rfl rfl rfl (aB (by kernel_rfl))) ?_;iterate 6 refine zQ ?_
  refine vv (v:= .bool false) (ah rfl rfl rfl (aB (by kernel_rfl))) ?_;iterate 7 refine zQ ?_
  refine vv (v:= .bool true) (ah rfl rfl rfl (aB (by kernel_rfl))) ?_;iterate 9 refine zQ ?_
  obtain ⟨Dt,aBP,rfl⟩:=Rd.addr (St.rd 3 qG rfl) (by decide);refine vv (gM 0) ?_;refine vv (v:=iV x.at_) (aj rfl rfl (aA Tryz.underlying3 rfl (Rd.cl (j:=0) (St.rd 3 qG rfl) rfl))) ?_;refine zQ ?_;refine lQ 0 qG fM ?_;intro ahq BN;iterate 7 refine zQ ?_
  refine cab gU BN (HW _) ?_;intro al7 zW;refine vv (v:= .bool false) (ah rfl rfl rfl (aB (by kernel_rfl))) ?_;iterate 9 refine zQ ?_
  refine cab gU zW (HW _) ?_;intro ab9 yX;refine vv (v:= .bool false) (ah rfl rfl rfl (aB (by kernel_rfl))) ?_;iterate 17 refine zQ ?_
  refine lQ 0 yX fM ?_;intro ahr tT;iterate 5 refine zQ ?_
  refine sa 1 tT jA ?_;intro JQ kX;iterate 4 refine zQ ?_
  rw [show keep x=⟨x.kd,0,0,x.at_,0,0,0,0,0,0,0⟩ from by simp [keep,hk]];exact ⟨rfl,kX.low⟩
 ·have hl:=hf;simp [aX,hk] at hl;subst hl;have HW:=fun w=>bA x w
  rw [show aI x.kd x.ek=⟨#[108,111,115,101]⟩ from by simp [aI,hk]] at HW;iterate 2 refine zQ ?_
  refine cab gU jQ (HW _) ?_;intro ahs tV;iterate 6 refine zQ ?_
  refine vv (v:= .bool false) (ah rfl rfl rfl (aB (by kernel_rfl))) ?_;iterate 5 refine zQ ?_
  refine vv (v:= .bool false) (ah rfl rfl rfl (aB (by kernel_rfl))) ?_;iterate 7 refine zQ ?_
  refine vv (v:= .bool false) (ah rfl rfl rfl (aB (by kernel_rfl))) ?_;iterate 5 refine zQ ?_
  refine vv (v:= .bool false) (ah rfl rfl rfl (aB (by kernel_rfl))) ?_;iterate 6 refine zQ ?_
  refine vv (v:= .bool false) (ah rfl rfl rfl (aB (by kernel_rfl))) ?_;iterate 7 refine zQ ?_
  refine vv (v:= .bool false) (ah rfl rfl rfl (aB (by kernel_rfl))) ?_;iterate 6 refine zQ ?_
  refine vv (v:= .bool true) (ah rfl rfl rfl (aB (by kernel_rfl))) ?_;iterate 9 refine zQ ?_
  obtain ⟨aBQ,aBR,rfl⟩:=Rd.addr (St.rd 3 tV rfl) (by decide);refine vv (gM 0) ?_;refine vv (v:=iV x.at_) (aj rfl rfl (aA Tryz.underlying3 rfl (Rd.cl (j:=0) (St.rd 3 tV rfl) rfl))) ?_;refine zQ ?_;refine lQ 0 tV fM ?_;intro Q8 kH;iterate 7 refine zQ ?_
  refine cab gU kH (HW _) ?_;intro Ie nM;refine vv (v:= .bool false) (ah rfl rfl rfl (aB (by kernel_rfl))) ?_;iterate 9 refine zQ ?_
  refine cab gU nM (HW _) ?_;intro MZ oK;refine vv (v:= .bool false) (ah rfl rfl rfl (aB (by kernel_rfl))) ?_;iterate 17 refine zQ ?_
  refine lQ 0 oK fM ?_;intro Ih pI;iterate 5 refine zQ ?_
  refine sa 1 pI jA ?_;intro ahl yS;iterate 4 refine zQ ?_
  rw [show keep x=⟨x.kd,0,0,x.at_,0,0,0,0,0,0,0⟩ from by simp [keep,hk]];exact ⟨rfl,yS.low⟩
 ·have hl:=hf;simp [aX,hk] at hl;subst hl;have HW:=fun w=>bA x w
  rw [show aI x.kd x.ek=⟨#[100,111,117,98,108,101]⟩ from by simp [aI,hk]] at HW;iterate 2 refine zQ ?_
  refine cab gU jQ (HW _) ?_;intro ahm qF;iterate 6 refine zQ ?_
  refine vv (v:= .bool false) (ah rfl rfl rfl (aB (by kernel_rfl))) ?_;iterate 5 refine zQ ?_
  refine vv (v:= .bool false) (ah rfl rfl rfl (aB (by kernel_rfl))) ?_;iterate 7 refine zQ ?_
  refine vv (v:= .bool false) (ah rfl rfl rfl (aB (by kernel_rfl))) ?_;iterate 5 refine zQ ?_
  refine vv (v:= .bool false) (ah rfl rfl rfl (aB (by kernel_rfl))) ?_;iterate 6 refine zQ ?_
  refine vv (v:= .bool false) (ah rfl rfl rfl (aB (by kernel_rfl))) ?_;iterate 7 refine zQ ?_
  refine vv (v:= .bool false) (ah rfl rfl rfl (aB (by kernel_rfl))) ?_;iterate 6 refine zQ ?_
  refine vv (v:= .bool false) (ah rfl rfl rfl (aB (by kernel_rfl))) ?_;iterate 5 refine zQ ?_
  refine vv (v:= .bool true) (ah rfl rfl rfl (aB (by kernel_rfl))) ?_;iterate 6 refine zQ ?_
  obtain ⟨aBS,aBT,rfl⟩:=Rd.addr (St.rd 3 qF rfl) (by decide);refine vv (gM 0) ?_;refine vv (v:=iV x.at_) (aj rfl rfl (aA Tryz.underlying3 rfl (Rd.cl (j:=0) (St.rd 3 qF rfl) rfl))) ?_;refine zQ ?_;refine lQ 0 qF fM ?_;intro al8 JN;iterate 7 refine zQ ?_
  refine cab gU JN (HW _) ?_;intro VU Dq;refine vv (v:= .bool false) (ah rfl rfl rfl (aB (by kernel_rfl))) ?_;iterate 9 refine zQ ?_
  refine cab gU Dq (HW _) ?_;intro aht xK;refine vv (v:= .bool false) (ah rfl rfl rfl (aB (by kernel_rfl))) ?_;iterate 17 refine zQ ?_
  refine lQ 0 xK fM ?_;intro ahu EZ;iterate 5 refine zQ ?_
  refine sa 1 EZ jA ?_;intro atv V8;iterate 4 refine zQ ?_
  rw [show keep x=⟨x.kd,0,0,x.at_,0,0,0,0,0,0,0⟩ from by simp [keep,hk]];exact ⟨rfl,V8.low⟩
 ·have hl:=hf;simp [aX,hk] at hl;subst hl;have HW:=fun w=>bA x w
  rw [show aI x.kd x.ek=⟨#[97,108,108]⟩ from by simp [aI,hk]] at HW;iterate 2 refine zQ ?_
  refine cab gU jQ (HW _) ?_;intro aBU ahv;iterate 6 refine zQ ?_
  refine vv (v:= .bool false) (ah rfl rfl rfl (aB (by kernel_rfl))) ?_;iterate 5 refine zQ ?_
  refine vv (v:= .bool false) (ah rfl rfl rfl (aB (by kernel_rfl))) ?_;iterate 7 refine zQ ?_
  refine vv (v:= .bool false) (ah rfl rfl rfl (aB (by kernel_rfl))) ?_;iterate 5 refine zQ ?_
  refine vv (v:= .bool false) (ah rfl rfl rfl (aB (by kernel_rfl))) ?_;iterate 6 refine zQ ?_
  refine vv (v:= .bool false) (ah rfl rfl rfl (aB (by kernel_rfl))) ?_;iterate 7 refine zQ ?_
  refine vv (v:= .bool false) (ah rfl rfl rfl (aB (by kernel_rfl))) ?_;iterate 6 refine zQ ?_
  refine vv (v:= .bool false) (ah rfl rfl rfl (aB (by kernel_rfl))) ?_;iterate 5 refine zQ ?_
  refine vv (v:= .bool false) (ah rfl rfl rfl (aB (by kernel_rfl))) ?_;iterate 7 refine zQ ?_
  refine vv (v:= .bool false) (ah rfl rfl rfl (aB (by kernel_rfl))) ?_;iterate 6 refine zQ ?_
  refine vv (v:= .bool false) (ah rfl rfl rfl (aB (by kernel_rfl))) ?_;iterate 5 refine zQ ?_
  refine vv (v:= .bool false) (ah rfl rfl rfl (aB (by kernel_rfl))) ?_;iterate 11 refine zQ ?_
  refine cab gU ahv (HW _) ?_;intro aBV BO;refine vv (v:= .bool false) (ah rfl rfl rfl (aB (by kernel_rfl))) ?_;iterate 9 refine zQ ?_
  refine cab gU BO (HW _) ?_;intro al9 M0;refine vv (v:= .bool false) (ah rfl rfl rfl (aB (by kernel_rfl))) ?_;iterate 17 refine zQ ?_
  refine lQ 0 M0 fM ?_;intro atw JW;iterate 5 refine zQ ?_
  refine sa 1 JW jA ?_;intro atx acd;iterate 4 refine zQ ?_
  rw [show keep x=⟨x.kd,0,0,0,0,0,0,0,0,0,0⟩ from by simp [keep,hk]];exact ⟨rfl,acd.low⟩
 ·have hl:=hf;simp [aX,hk,hek] at hl;subst hl;have HW:=fun w=>bA x w
  rw [show aI x.kd x.ek=⟨#[112,117,98,108,105,115,104]⟩ from by simp [aI,hk,hek]] at HW;iterate 2 refine zQ ?_
  refine cab gU jQ (HW _) ?_;intro aBW M4;iterate 6 refine zQ ?_
  refine vv (v:= .bool false) (ah rfl rfl rfl (aB (by kernel_rfl))) ?_;iterate 5 refine zQ ?_
  refine vv (v:= .bool false) (ah rfl rfl rfl (aB (by kernel_rfl))) ?_;iterate 7 refine zQ ?_
  refine vv (v:= .bool false) (ah rfl rfl rfl (aB (by kernel_rfl))) ?_;iterate 5 refine zQ ?_
  refine vv (v:= .bool false) (ah rfl rfl rfl (aB (by kernel_rfl))) ?_;iterate 6 refine zQ ?_
  refine vv (v:= .bool false) (ah rfl rfl rfl (aB (by kernel_rfl))) ?_;iterate 7 refine zQ ?_
  refine vv (v:= .bool false) (ah rfl rfl rfl (aB (by kernel_rfl))) ?_;iterate 6 refine zQ ?_
  refine vv (v:= .bool false) (ah rfl rfl rfl (aB (by kernel_rfl))) ?_;iterate 5 refine zQ ?_
  refine vv (v:= .bool false) (ah rfl rfl rfl (aB (by kernel_rfl))) ?_;iterate 7 refine zQ ?_
  refine vv (v:= .bool true) (ah rfl rfl rfl (aB (by kernel_rfl))) ?_;iterate 10 refine zQ ?_
  obtain ⟨aBX,aBY,rfl⟩:=Rd.addr (St.rd 3 M4 rfl) (by decide);refine vv (gM 0) ?_;refine vv (v:=iV x.nd) (aj rfl rfl (aA Tryz.underlying3 rfl (Rd.cl (j:=0) (St.rd 3 M4 rfl) rfl))) ?_;refine zQ ?_;refine lQ 0 M4 fM ?_;intro ace Ii;iterate 4 refine zQ ?_
  refine vv (gM 1) ?_;refine vv (v:=iV x.qu) (aj rfl rfl (aA Tryz.underlying3 rfl (Rd.cl (j:=1) (St.rd 3 Ii rfl) rfl))) ?_;refine zQ ?_;refine lQ 0 Ii fM ?_;intro ama JX;iterate 7 refine zQ ?_
  refine cab gU JX (HW _) ?_;intro aty acf;refine vv (v:= .bool true) (ah rfl rfl rfl (aB (by kernel_rfl))) ?_;iterate 6 refine zQ ?_
  refine vv (gM 2) ?_;refine vv (v:=iV x.ep) (aj rfl rfl (aA Tryz.underlying3 rfl (Rd.cl (j:=2) (St.rd 3 acf rfl) rfl))) ?_;iterate 2 refine zQ ?_
  refine lQ 0 acf fM ?_;intro amb JY;iterate 5 refine zQ ?_
  refine vv (gM 3) ?_;refine vv (v:=iV x.ei) (aj rfl rfl (aA Tryz.underlying3 rfl (Rd.cl (j:=3) (St.rd 3 JY rfl) rfl))) ?_;iterate 2 refine zQ ?_
  refine lQ 0 JY fM ?_;intro atz acg;iterate 4 refine zQ ?_
  refine vv (gM 4) ?_;refine vv (v:=iV x.eb) (aj rfl rfl (aA Tryz.underlying3 rfl (Rd.cl (j:=4) (St.rd 3 acg rfl) rfl))) ?_;iterate 2 refine zQ ?_
  refine lQ 0 acg fM ?_;intro atA ahw;iterate 6 refine zQ ?_
  refine cab gU ahw (HW _) ?_;intro atB ach;refine vv (v:= .bool false) (ah rfl rfl rfl (aB (by kernel_rfl))) ?_;iterate 19 refine zQ ?_
  refine sa 1 ach jA ?_;intro atC V9;iterate 4 refine zQ ?_
  rw [show keep x=⟨x.kd,x.nd,x.qu,0,0,x.ek,x.ep,x.ei,x.eb,0,0⟩ from by simp [keep,hk,hek]];exact ⟨rfl,V9.low⟩
 ·have hl:=hf;simp [aX,hk,hek] at hl;subst hl;have HW:=fun w=>bA x w
  rw [show aI x.kd x.ek=⟨#[114,101,99,101,105,118,101]⟩ from by simp [aI,hk,hek]] at HW;iterate 2 refine zQ ?_
  refine cab gU jQ (HW _) ?_;intro amc M5;iterate 6 refine zQ ?_
  refine vv (v:= .bool false) (ah rfl rfl rfl (aB (by kernel_rfl))) ?_;iterate 5 refine zQ ?_
  refine vv (v:= .bool false) (ah rfl rfl rfl (aB (by kernel_rfl))) ?_;iterate 7 refine zQ ?_
  refine vv (v:= .bool false) (ah rfl rfl rfl (aB (by kernel_rfl))) ?_;iterate 5 refine zQ ?_
  refine vv (v:= .bool false) (ah rfl rfl rfl (aB (by kernel_rfl))) ?_;iterate 6 refine zQ ?_
  refine vv (v:= .bool false) (ah rfl rfl rfl (aB (by kernel_rfl))) ?_;iterate 7 refine zQ ?_
  refine vv (v:= .bool false) (ah rfl rfl rfl (aB (by kernel_rfl))) ?_;iterate 6 refine zQ ?_
  refine vv (v:= .bool false) (ah rfl rfl rfl (aB (by kernel_rfl))) ?_;iterate 5 refine zQ ?_
  refine vv (v:= .bool false) (ah rfl rfl rfl (aB (by kernel_rfl))) ?_;iterate 7 refine zQ ?_
  refine vv (v:= .bool false) (ah rfl rfl rfl (aB (by kernel_rfl))) ?_;iterate 6 refine zQ ?_
  refine vv (v:= .bool true) (ah rfl rfl rfl (aB (by kernel_rfl))) ?_;iterate 10 refine zQ ?_
  obtain ⟨aBZ,aB0,rfl⟩:=Rd.addr (St.rd 3 M5 rfl) (by decide);refine vv (gM 0) ?_;refine vv (v:=iV x.nd) (aj rfl rfl (aA Tryz.underlying3 rfl (Rd.cl (j:=0) (St.rd 3 M5 rfl) rfl))) ?_;refine zQ ?_;refine lQ 0 M5 fM ?_;intro aB1 Wh;iterate 4 refine zQ ?_
  refine vv (gM 1) ?_;refine vv (v:=iV x.qu) (aj rfl rfl (aA Tryz.underlying3 rfl (Rd.cl (j:=1) (St.rd 3 Wh rfl) rfl))) ?_;refine zQ ?_;refine lQ 0 Wh fM ?_;intro atD Wi;iterate 7 refine zQ ?_
  refine cab gU Wi (HW _) ?_;intro aB2 ahx;refine vv (v:= .bool false) (ah rfl rfl rfl (aB (by kernel_rfl))) ?_;iterate 9 refine zQ ?_
  refine cab gU ahx (HW _) ?_;intro aB3 atE;refine vv (v:= .bool false) (ah rfl rfl rfl (aB (by kernel_rfl))) ?_;iterate 19 refine zQ ?_
  refine sa 1 atE jA ?_;intro atF ahy;iterate 4 refine zQ ?_
  rw [show keep x=⟨x.kd,x.nd,x.qu,0,0,x.ek,0,0,0,0,0⟩ from by simp [keep,hk,hek]];exact ⟨rfl,ahy.low⟩
 ·have hl:=hf;simp [aX,hk,hek] at hl;subst hl;have HW:=fun w=>bA x w
  rw [show aI x.kd x.ek=⟨#[97,99,107]⟩ from by simp [aI,hk,hek]] at HW;iterate 2 refine zQ ?_
  refine cab gU jQ (HW _) ?_;intro aB4 Q9;iterate 6 refine zQ ?_
  refine vv (v:= .bool false) (ah rfl rfl rfl (aB (by kernel_rfl))) ?_;iterate 5 refine zQ ?_
  refine vv (v:= .bool false) (ah rfl rfl rfl (aB (by kernel_rfl))) ?_;iterate 7 refine zQ ?_
  refine vv (v:= .bool false) (ah rfl rfl rfl (aB (by kernel_rfl))) ?_;iterate 5 refine zQ ?_
  refine vv (v:= .bool false) (ah rfl rfl rfl (aB (by kernel_rfl))) ?_;iterate 6 refine zQ ?_
  refine vv (v:= .bool false) (ah rfl rfl rfl (aB (by kernel_rfl))) ?_;iterate 7 refine zQ ?_
  refine vv (v:= .bool false) (ah rfl rfl rfl (aB (by kernel_rfl))) ?_;iterate 6 refine zQ ?_
  refine vv (v:= .bool false) (ah rfl rfl rfl (aB (by kernel_rfl))) ?_;iterate 5 refine zQ ?_
  refine vv (v:= .bool false) (ah rfl rfl rfl (aB (by kernel_rfl))) ?_;iterate 7 refine zQ ?_
  refine vv (v:= .bool false) (ah rfl rfl rfl (aB (by kernel_rfl))) ?_;iterate 6 refine zQ ?_
  refine vv (v:= .bool false) (ah rfl rfl rfl (aB (by kernel_rfl))) ?_;iterate 5 refine zQ ?_
  refine vv (v:= .bool true) (ah rfl rfl rfl (aB (by kernel_rfl))) ?_;iterate 7 refine zQ ?_
  obtain ⟨atG,aB5,rfl⟩:=Rd.addr (St.rd 3 Q9 rfl) (by decide);refine vv (gM 0) ?_;refine vv (v:=iV x.nd) (aj rfl rfl (aA Tryz.underlying3 rfl (Rd.cl (j:=0) (St.rd 3 Q9 rfl) rfl))) ?_;refine zQ ?_;refine lQ 0 Q9 fM ?_;intro aB6 amd;iterate 4 refine zQ ?_
  refine vv (gM 1) ?_;refine vv (v:=iV x.qu) (aj rfl rfl (aA Tryz.underlying3 rfl (Rd.cl (j:=1) (St.rd 3 amd rfl) rfl))) ?_;refine zQ ?_;refine lQ 0 amd fM ?_;intro aB7 ahz;iterate 7 refine zQ ?_
  refine cab gU ahz (HW _) ?_;intro aB8 aci;refine vv (v:= .bool false) (ah rfl rfl rfl (aB (by kernel_rfl))) ?_;iterate 9 refine zQ ?_
  refine cab gU aci (HW _) ?_;intro aB9 atH;refine vv (v:= .bool true) (ah rfl rfl rfl (aB (by kernel_rfl))) ?_;iterate 3 refine zQ ?_
  have Ij:=atH.drew;refine fG 10 7 Ij [] ?_;refine iP ?_;refine gk 1 rfl Ij (fun _ _=>gM 2) ?_;refine gk (v:=iV x.eh) 2 rfl Ij (fun _ apK=>(aj rfl rfl (aA Tryz.underlying3 rfl (Rd.cl (j:=2) (St.rd 3 apK rfl) rfl)))) ?_;refine iP ?_;refine gk 4 rfl Ij (fun _ _=>gM 3) ?_;refine gk (v:=iV x.en) 5 rfl Ij (fun _ apL=>(aj rfl rfl (aA Tryz.underlying3 rfl (Rd.cl (j:=3) (St.rd 3 apL rfl) rfl)))) ?_;refine gk (v:= .agg #[iV x.eh,iV x.en]) 6 rfl Ij (fun _ _=>gZ) ?_;refine eF (by kernel_rfl) rfl rfl rfl ?_;iterate 2 refine zQ ?_
  refine lQ 0 Ij LQ ?_;intro atI acj;refine zQ ?_;refine je ?_;iterate 15 refine zQ ?_
  refine sa 1 acj jA ?_;intro atJ ahA;iterate 4 refine zQ ?_
  rw [show keep x=⟨x.kd,x.nd,x.qu,0,0,x.ek,0,0,0,x.eh,x.en⟩ from by simp [keep,hk,hek]];exact ⟨rfl,ahA.low⟩
 rw [hn] at hf;cases hf
theorem SL (g:Nat) (x:Ac) (w:World) (h:Rd w w.heap.size 11 (aD g 0) 1 x.cells):
    Calls Tryz.prog 65 #[pV g 0] w (aaU w g (aI x.kd x.ek) (aX x.kd x.ek)):=by
 have S:=(St.start w).bH h;refine fE 111 Tryz.func65 ?_;refine cw [0] ?_;iterate 8 refine zQ ?_
 have S1:=S.drew;refine EL (C:=fun w'=>St w.heap.size w w' [.rd 11 (aD g 0) 1 x.cells]) (n:=12) (listed:= #[false,false,false,false,false,false,false,false,false,false,false,false]) mixed rfl rfl ?_;iterate 3 refine aF ?_
 refine ak (v:= .agg #[pV g 1,iV 4]) 3 rfl S1 (fun _ _=>gZ) ?_;iterate 3 refine aF ?_
 refine ak (v:= .agg #[pV g 2,iV 3]) 7 rfl S1 (fun _ _=>gZ) ?_;refine dR (n:=3) (r:=8) (s:=9) (by kernel_rfl) ?_ ?_
 ·refine jk 8 rfl S1 Cw ?_;intro b10 Ee lq;refine aF ?_;refine aS 9 ?_;refine jk 9 rfl lq Cw ?_;intro b13 FT gH;refine aF ?_;refine aS 10 ?_;refine sn 10 rfl 1 gH rM ?_;intro w16 kT;refine aF ?_;refine aS 11 ?_;refine sn 11 rfl 0 kT rM ?_;intro L8 lg;iterate 2 refine aF ?_
  iterate 6 refine zQ ?_
  refine vv (v:= .agg #[pV g 3,iV 1048576]) gZ ?_;refine eU lg Cw ?_;intro b20 Bh ig;refine sa 0 ig rM ?_;intro JZ jB;iterate 8 refine zQ ?_
  refine vv (v:=iV x.kd) (aj rfl rfl (aA Tryz.underlying3 rfl (Rd.cl (j:=0) (St.rd 3 jB rfl) rfl))) ?_;iterate 5 refine zQ ?_
  by_cases qO:x.kd=1
  ·iterate 6 refine zQ ?_
   have kD:=jB.drew;refine aN 6 kD [] ?_;iterate 3 refine aF ?_
   refine aS 2 ?_;refine jr (i:=2) rfl rfl (V:=fun b=> .slice (aD b 0) 2 2) (row:= #[pV g 2,iV 3,pV g 1,iV 4]) (t:=164) kD (wn rfl) rfl rfl (aK (vs:=[(0,.agg #[pV g 2,iV 3]),(1,.agg #[pV g 1,iV 4])]) rfl ⟨rfl,rfl,rfl,rfl,trivial⟩ (by kernel_rfl)) ?_;intro b30 Zx pE;iterate 4 refine aF ?_
   iterate 5 refine zQ ?_
   rw [show aI x.kd x.ek=⟨#[109,97,107,101]⟩ from by simp [aI,qO]];have kC:=pE.aR [4,3,2,1];rw [show aX x.kd x.ek=some [(2,3),(1,4)] from by simp [aX,qO]];exact ⟨_,rfl,St.dD (n:=2) (xs:=([(2,3),(1,4)]:List (Nat×Int)).flatMap (cZ g)) 0 kC rfl rfl rfl⟩
  iterate 7 refine zQ ?_
  by_cases vJ:x.kd=10
  ·iterate 6 refine zQ ?_
   have qN:=jB.drew;refine aN 6 qN [] ?_;iterate 3 refine aF ?_
   refine aS 2 ?_;refine jr (i:=2) rfl rfl (V:=fun b=> .slice (aD b 0) 2 2) (row:= #[pV g 2,iV 3,pV g 1,iV 4]) (t:=164) qN (wn rfl) rfl rfl (aK (vs:=[(0,.agg #[pV g 2,iV 3]),(1,.agg #[pV g 1,iV 4])]) rfl ⟨rfl,rfl,rfl,rfl,trivial⟩ (by kernel_rfl)) ?_;intro b41 Ux tu;iterate 4 refine aF ?_
   iterate 5 refine zQ ?_
   rw [show aI x.kd x.ek=⟨#[109,111,118,101]⟩ from by simp [aI,qO,vJ]];have qj:=tu.aR [4,3,2,1];rw [show aX x.kd x.ek=some [(2,3),(1,4)] from by simp [aX,qO,vJ]];exact ⟨_,rfl,St.dD (n:=2) (xs:=([(2,3),(1,4)]:List (Nat×Int)).flatMap (cZ g)) 0 qj rfl rfl rfl⟩
  iterate 7 refine zQ ?_
  by_cases h47:x.kd=3
  ·iterate 6 refine zQ ?_
   have qX:=jB.drew;refine aN 5 qX [] ?_;iterate 2 refine aF ?_
   refine aS 1 ?_;refine Dm 1 rfl qX ?_;intro Zu w52 vG;iterate 4 refine aF ?_
   iterate 5 refine zQ ?_
   rw [show aI x.kd x.ek=⟨#[115,116,101,112]⟩ from by simp [aI,qO,vJ,h47]];have yT:=vG.aR [4,3,2,1];rw [show aX x.kd x.ek=some [(1,4)] from by simp [aX,qO,vJ,h47]];exact ⟨_,rfl,St.dD (n:=1) (xs:=([(1,4)]:List (Nat×Int)).flatMap (cZ g)) 0 yT rfl rfl rfl⟩
  iterate 7 refine zQ ?_
  by_cases h57:x.kd=9
  ·iterate 6 refine zQ ?_
   have yU:=jB.drew;refine aN 5 yU [] ?_;iterate 2 refine aF ?_
   refine aS 1 ?_;refine Dm 1 rfl yU ?_;intro b61 VY uO;iterate 4 refine aF ?_
   iterate 5 refine zQ ?_
   rw [show aI x.kd x.ek=⟨#[115,116,97,114,116]⟩ from by simp [aI,qO,vJ,h47,h57]];have Bj:=uO.aR [4,3,2,1];rw [show aX x.kd x.ek=some [(1,4)] from by simp [aX,qO,vJ,h47,h57]];exact ⟨_,rfl,St.dD (n:=1) (xs:=([(1,4)]:List (Nat×Int)).flatMap (cZ g)) 0 Bj rfl rfl rfl⟩
  iterate 7 refine zQ ?_
  by_cases zK:x.kd=8
  ·iterate 6 refine zQ ?_
   have uz:=jB.drew;refine aN 9 uz [] ?_;iterate 4 refine aF ?_
   refine ak (v:= .agg #[pV g 4,iV 100000]) 4 rfl uz (fun _ _=>gZ) ?_;refine aF ?_;refine aS 5 ?_;refine jr (i:=5) rfl rfl (V:=fun b=> .slice (aD b 0) 2 2) (row:= #[pV g 1,iV 4,pV g 4,iV 100000]) (t:=164) uz (wn rfl) rfl rfl (aK (vs:=[(0,.agg #[pV g 1,iV 4]),(1,.agg #[pV g 4,iV 100000])]) rfl ⟨rfl,rfl,rfl,rfl,trivial⟩ (by kernel_rfl)) ?_;intro b75 w76 CB;iterate 4 refine aF ?_
   iterate 5 refine zQ ?_
   rw [show aI x.kd x.ek=⟨#[99,114,97,115,104]⟩ from by simp [aI,qO,vJ,h47,h57,zK]];have xG:=CB.aR [4,3,2,1];rw [show aX x.kd x.ek=some [(1,4),(4,100000)] from by simp [aX,qO,vJ,h47,h57,zK]];exact ⟨_,rfl,St.dD (n:=2) (xs:=([(1,4),(4,100000)]:List (Nat×Int)).flatMap (cZ g)) 0 xG rfl rfl rfl⟩
  iterate 7 refine zQ ?_
  by_cases Ei:x.kd=4
  ·iterate 6 refine zQ ?_
   have UG:=jB.drew;refine aN 5 UG [] ?_;iterate 2 refine aF ?_
   refine aS 1 ?_;refine Dm 1 rfl UG ?_;intro b85 w86 Du;iterate 4 refine aF ?_
   iterate 5 refine zQ ?_
   rw [show aI x.kd x.ek=⟨#[99,97,114,114,121]⟩ from by simp [aI,qO,vJ,h47,h57,zK,Ei]];have JO:=Du.aR [4,3,2,1];rw [show aX x.kd x.ek=some [(3,1048576)] from by simp [aX,qO,vJ,h47,h57,zK,Ei]];exact ⟨_,rfl,St.dD (n:=1) (xs:=([(3,1048576)]:List (Nat×Int)).flatMap (cZ g)) 0 JO rfl rfl rfl⟩
  iterate 7 refine zQ ?_
  by_cases Dv:x.kd=5
  ·iterate 6 refine zQ ?_
   have vI:=jB.drew;refine aN 5 vI [] ?_;iterate 2 refine aF ?_
   refine aS 1 ?_;refine Dm 1 rfl vI ?_;intro b95 Qv uP;iterate 4 refine aF ?_
   iterate 5 refine zQ ?_
   rw [show aI x.kd x.ek=⟨#[108,111,115,101]⟩ from by simp [aI,qO,vJ,h47,h57,zK,Ei,Dv]];have oJ:=uP.aR [4,3,2,1];rw [show aX x.kd x.ek=some [(3,1048576)] from by simp [aX,qO,vJ,h47,h57,zK,Ei,Dv]];exact ⟨_,rfl,St.dD (n:=1) (xs:=([(3,1048576)]:List (Nat×Int)).flatMap (cZ g)) 0 oJ rfl rfl rfl⟩
  iterate 7 refine zQ ?_
  by_cases yY:x.kd=6
  ·iterate 6 refine zQ ?_
   have pG:=jB.drew;refine aN 5 pG [] ?_;iterate 2 refine aF ?_
   refine aS 1 ?_;refine Dm 1 rfl pG ?_;intro aCa Wj wo;iterate 4 refine aF ?_
   iterate 5 refine zQ ?_
   rw [show aI x.kd x.ek=⟨#[100,111,117,98,108,101]⟩ from by simp [aI,qO,vJ,h47,h57,zK,Ei,Dv,yY]];have pq:=wo.aR [4,3,2,1];rw [show aX x.kd x.ek=some [(3,1048576)] from by simp [aX,qO,vJ,h47,h57,zK,Ei,Dv,yY]];exact ⟨_,rfl,St.dD (n:=1) (xs:=([(3,1048576)]:List (Nat×Int)).flatMap (cZ g)) 0 pq rfl rfl rfl⟩
  iterate 7 refine zQ ?_
  by_cases BP:x.kd=7
  ·iterate 16 refine zQ ?_
   rw [show aI x.kd x.ek=⟨#[97,108,108]⟩ from by simp [aI,qO,vJ,h47,h57,zK,Ei,Dv,yY,BP]];have sH:=jB.aR [3,2,1,0];rw [show aX x.kd x.ek=some [] from by simp [aX,qO,vJ,h47,h57,zK,Ei,Dv,yY,BP]];exact ⟨none,rfl,aJ sH⟩
  iterate 7 refine zQ ?_
  by_cases E5:x.kd=2
  ·iterate 18 refine zQ ?_
   refine vv (v:=iV x.ek) (aj rfl rfl (aA Tryz.underlying3 rfl (Rd.cl (j:=5) (St.rd 3 jB rfl) rfl))) ?_;iterate 5 refine zQ ?_
   by_cases sI:x.ek=1
   ·iterate 6 refine zQ ?_
    have ko:=jB.drew;refine aN 18 ko [] ?_;iterate 5 refine aF ?_
    refine ak (v:= .agg #[pV g 6,iV 3]) 5 rfl ko (fun _ _=>gZ) ?_;iterate 3 refine aF ?_
    refine ak (v:= .agg #[pV g 7,iV 1073741824]) 9 rfl ko (fun _ _=>gZ) ?_;iterate 3 refine aF ?_
    refine ak (v:= .agg #[pV g 8,iV 1000000]) 13 rfl ko (fun _ _=>gZ) ?_;refine aF ?_;refine aS 14 ?_;refine jr (i:=14) rfl rfl (V:=fun b=> .slice (aD b 0) 5 5) (row:= #[pV g 1,iV 4,pV g 2,iV 3,pV g 6,iV 3,pV g 7,iV 1073741824,pV g 8,iV 1000000]) (t:=164) ko (wn rfl) rfl rfl (aK (vs:=[(0,.agg #[pV g 1,iV 4]),(1,.agg #[pV g 2,iV 3]),(2,.agg #[pV g 6,iV 3]),(3,.agg #[pV g 7,iV 1073741824]),(4,.agg #[pV g 8,iV 1000000])]) rfl ⟨rfl,rfl,rfl,rfl,rfl,rfl,rfl,rfl,rfl,rfl,trivial⟩ (by kernel_rfl)) ?_;intro aCb atK M6;iterate 4 refine aF ?_
    iterate 6 refine zQ ?_
    rw [show aI x.kd x.ek=⟨#[112,117,98,108,105,115,104]⟩ from by simp [aI,qO,vJ,h47,h57,zK,Ei,Dv,yY,BP,E5,sI]];have yS:=M6.aR [4,3,2,1];rw [show aX x.kd x.ek=some [(1,4),(2,3),(6,3),(7,1073741824),(8,1000000)] from by simp [aX,qO,vJ,h47,h57,zK,Ei,Dv,yY,BP,E5,sI]];exact ⟨_,rfl,St.dD (n:=5) (xs:=([(1,4),(2,3),(6,3),(7,1073741824),(8,1000000)]:List (Nat×Int)).flatMap (cZ g)) 0 yS rfl rfl rfl⟩
   iterate 7 refine zQ ?_
   by_cases Ra:x.ek=2
   ·iterate 6 refine zQ ?_
    have qF:=jB.drew;refine aN 6 qF [] ?_;iterate 3 refine aF ?_
    refine aS 2 ?_;refine jr (i:=2) rfl rfl (V:=fun b=> .slice (aD b 0) 2 2) (row:= #[pV g 1,iV 4,pV g 2,iV 3]) (t:=164) qF (wn rfl) rfl rfl (aK (vs:=[(0,.agg #[pV g 1,iV 4]),(1,.agg #[pV g 2,iV 3])]) rfl ⟨rfl,rfl,rfl,rfl,trivial⟩ (by kernel_rfl)) ?_;intro ame atL Rb;iterate 4 refine aF ?_
    iterate 6 refine zQ ?_
    rw [show aI x.kd x.ek=⟨#[114,101,99,101,105,118,101]⟩ from by simp [aI,qO,vJ,h47,h57,zK,Ei,Dv,yY,BP,E5,sI,Ra]];have MW:=Rb.aR [4,3,2,1];rw [show aX x.kd x.ek=some [(1,4),(2,3)] from by simp [aX,qO,vJ,h47,h57,zK,Ei,Dv,yY,BP,E5,sI,Ra]];exact ⟨_,rfl,St.dD (n:=2) (xs:=([(1,4),(2,3)]:List (Nat×Int)).flatMap (cZ g)) 0 MW rfl rfl rfl⟩
   iterate 7 refine zQ ?_
   by_cases acn:x.ek=3
   ·iterate 6 refine zQ ?_
    have xM:=jB.drew;refine aN 16 xM [] ?_;iterate 6 refine aF ?_
    refine ak (v:= .agg #[pV g 9,iV 1048576]) 6 rfl xM (fun _ _=>gZ) ?_;iterate 4 refine aF ?_
    refine ak (v:= .agg #[pV g 10,iV 1073741824]) 11 rfl xM (fun _ _=>gZ) ?_;refine aF ?_;refine aS 12 ?_;refine jr (i:=12) rfl rfl (V:=fun b=> .slice (aD b 0) 4 4) (row:= #[pV g 1,iV 4,pV g 2,iV 3,pV g 9,iV 1048576,pV g 10,iV 1073741824]) (t:=164) xM (wn rfl) rfl rfl (aK (vs:=[(0,.agg #[pV g 1,iV 4]),(1,.agg #[pV g 2,iV 3]),(2,.agg #[pV g 9,iV 1048576]),(3,.agg #[pV g 10,iV 1073741824])]) rfl ⟨rfl,rfl,rfl,rfl,rfl,rfl,rfl,rfl,trivial⟩ (by kernel_rfl)) ?_;intro aCc amf wu;iterate 4 refine aF ?_
    iterate 6 refine zQ ?_
    rw [show aI x.kd x.ek=⟨#[97,99,107]⟩ from by simp [aI,qO,vJ,h47,h57,zK,Ei,Dv,yY,BP,E5,sI,Ra,acn]];have M4:=wu.aR [4,3,2,1];rw [show aX x.kd x.ek=some [(1,4),(2,3),(9,1048576),(10,1073741824)] from by simp [aX,qO,vJ,h47,h57,zK,Ei,Dv,yY,BP,E5,sI,Ra,acn]];exact ⟨_,rfl,St.dD (n:=4) (xs:=([(1,4),(2,3),(9,1048576),(10,1073741824)]:List (Nat×Int)).flatMap (cZ g)) 0 M4 rfl rfl rfl⟩
   iterate 18 refine zQ ?_
   rw [show aI x.kd x.ek=⟨#[]⟩ from by simp [aI,qO,vJ,h47,h57,zK,Ei,Dv,yY,BP,E5,sI,Ra,acn]];rw [show aX x.kd x.ek=none from by simp [aX,qO,vJ,h47,h57,zK,Ei,Dv,yY,BP,E5,sI,Ra,acn]];exact ⟨rfl,jB.low⟩
  iterate 17 refine zQ ?_
  rw [show aI x.kd x.ek=⟨#[]⟩ from by simp [aI,qO,vJ,h47,h57,zK,Ei,Dv,yY,BP,E5]];rw [show aX x.kd x.ek=none from by simp [aX,qO,vJ,h47,h57,zK,Ei,Dv,yY,BP,E5]];exact ⟨rfl,jB.low⟩
 refine jk 9 rfl S1 Cw ?_;intro aCd aCe ahB;refine aF ?_;refine aS 8 ?_;refine jk 8 rfl ahB Cw ?_;intro aCf atM Wm;refine aF ?_;refine aS 10 ?_;refine sn 10 rfl 0 Wm rM ?_;intro aCg Wn;refine aF ?_;refine aS 11 ?_;refine sn 11 rfl 1 Wn rM ?_;intro atN Rc;iterate 2 refine aF ?_
 iterate 6 refine zQ ?_
 refine vv (v:= .agg #[pV g 3,iV 1048576]) gZ ?_;refine eU Rc Cw ?_;intro aCh aCi Wo;refine sa 0 Wo rM ?_;intro aCj wz;iterate 8 refine zQ ?_
 refine vv (v:=iV x.kd) (aj rfl rfl (aA Tryz.underlying3 rfl (Rd.cl (j:=0) (St.rd 3 wz rfl) rfl))) ?_;iterate 5 refine zQ ?_
 by_cases mK:x.kd=1
 ·iterate 6 refine zQ ?_
  have amg:=wz.drew;refine aN 6 amg [] ?_;iterate 3 refine aF ?_
  refine aS 2 ?_;refine jr (i:=2) rfl rfl (V:=fun b=> .slice (aD b 0) 2 2) (row:= #[pV g 2,iV 3,pV g 1,iV 4]) (t:=164) amg (wn rfl) rfl rfl (aK (vs:=[(0,.agg #[pV g 2,iV 3]),(1,.agg #[pV g 1,iV 4])]) rfl ⟨rfl,rfl,rfl,rfl,trivial⟩ (by kernel_rfl)) ?_;intro aCk amc M5;iterate 4 refine aF ?_
  iterate 5 refine zQ ?_
  rw [show aI x.kd x.ek=⟨#[109,97,107,101]⟩ from by simp [aI,mK]];have M7:=M5.aR [4,3,2,1];rw [show aX x.kd x.ek=some [(2,3),(1,4)] from by simp [aX,mK]];exact ⟨_,rfl,St.dD (n:=2) (xs:=([(2,3),(1,4)]:List (Nat×Int)).flatMap (cZ g)) 0 M7 rfl rfl rfl⟩
 iterate 7 refine zQ ?_
 by_cases nN:x.kd=10
 ·iterate 6 refine zQ ?_
  have Wh:=wz.drew;refine aN 6 Wh [] ?_;iterate 3 refine aF ?_
  refine aS 2 ?_;refine jr (i:=2) rfl rfl (V:=fun b=> .slice (aD b 0) 2 2) (row:= #[pV g 2,iV 3,pV g 1,iV 4]) (t:=164) Wh (wn rfl) rfl rfl (aK (vs:=[(0,.agg #[pV g 2,iV 3]),(1,.agg #[pV g 1,iV 4])]) rfl ⟨rfl,rfl,rfl,rfl,trivial⟩ (by kernel_rfl)) ?_;intro aCl aCm atO;iterate 4 refine aF ?_
  iterate 5 refine zQ ?_
  rw [show aI x.kd x.ek=⟨#[109,111,118,101]⟩ from by simp [aI,mK,nN]];have atP:=atO.aR [4,3,2,1];rw [show aX x.kd x.ek=some [(2,3),(1,4)] from by simp [aX,mK,nN]];exact ⟨_,rfl,St.dD (n:=2) (xs:=([(2,3),(1,4)]:List (Nat×Int)).flatMap (cZ g)) 0 atP rfl rfl rfl⟩
 iterate 7 refine zQ ?_
 by_cases oL:x.kd=3
 ·iterate 6 refine zQ ?_
  have aco:=wz.drew;refine aN 5 aco [] ?_;iterate 2 refine aF ?_
  refine aS 1 ?_;refine Dm 1 rfl aco ?_;intro atG aCn atQ;iterate 4 refine aF ?_
  iterate 5 refine zQ ?_
  rw [show aI x.kd x.ek=⟨#[115,116,101,112]⟩ from by simp [aI,mK,nN,oL]];have ahz:=atQ.aR [4,3,2,1];rw [show aX x.kd x.ek=some [(1,4)] from by simp [aX,mK,nN,oL]];exact ⟨_,rfl,St.dD (n:=1) (xs:=([(1,4)]:List (Nat×Int)).flatMap (cZ g)) 0 ahz rfl rfl rfl⟩
 iterate 7 refine zQ ?_
 by_cases qH:x.kd=9
 ·iterate 6 refine zQ ?_
  have aci:=wz.drew;refine aN 5 aci [] ?_;iterate 2 refine aF ?_
  refine aS 1 ?_;refine Dm 1 rfl aci ?_;intro aCo aCp Ij;iterate 4 refine aF ?_
  iterate 5 refine zQ ?_
  rw [show aI x.kd x.ek=⟨#[115,116,97,114,116]⟩ from by simp [aI,mK,nN,oL,qH]];have ahC:=Ij.aR [4,3,2,1];rw [show aX x.kd x.ek=some [(1,4)] from by simp [aX,mK,nN,oL,qH]];exact ⟨_,rfl,St.dD (n:=1) (xs:=([(1,4)]:List (Nat×Int)).flatMap (cZ g)) 0 ahC rfl rfl rfl⟩
 iterate 7 refine zQ ?_
 by_cases sJ:x.kd=8
 ·iterate 6 refine zQ ?_
  have Wp:=wz.drew;refine aN 9 Wp [] ?_;iterate 4 refine aF ?_
  refine ak (v:= .agg #[pV g 4,iV 100000]) 4 rfl Wp (fun _ _=>gZ) ?_;refine aF ?_;refine aS 5 ?_;refine jr (i:=5) rfl rfl (V:=fun b=> .slice (aD b 0) 2 2) (row:= #[pV g 1,iV 4,pV g 4,iV 100000]) (t:=164) Wp (wn rfl) rfl rfl (aK (vs:=[(0,.agg #[pV g 1,iV 4]),(1,.agg #[pV g 4,iV 100000])]) rfl ⟨rfl,rfl,rfl,rfl,trivial⟩ (by kernel_rfl)) ?_;intro aCq aCr atS;iterate 4 refine aF ?_
  iterate 5 refine zQ ?_
  rw [show aI x.kd x.ek=⟨#[99,114,97,115,104]⟩ from by simp [aI,mK,nN,oL,qH,sJ]];have ahD:=atS.aR [4,3,2,1];rw [show aX x.kd x.ek=some [(1,4),(4,100000)] from by simp [aX,mK,nN,oL,qH,sJ]];exact ⟨_,rfl,St.dD (n:=2) (xs:=([(1,4),(4,100000)]:List (Nat×Int)).flatMap (cZ g)) 0 ahD rfl rfl rfl⟩
 iterate 7 refine zQ ?_
 by_cases uH:x.kd=4
 ·iterate 6 refine zQ ?_
  have amh:=wz.drew;refine aN 5 amh [] ?_;iterate 2 refine aF ?_
  refine aS 1 ?_;refine Dm 1 rfl amh ?_;intro aCs aCt atT;iterate 4 refine aF ?_
  iterate 5 refine zQ ?_
  rw [show aI x.kd x.ek=⟨#[99,97,114,114,121]⟩ from by simp [aI,mK,nN,oL,qH,sJ,uH]];have atU:=atT.aR [4,3,2,1];rw [show aX x.kd x.ek=some [(3,1048576)] from by simp [aX,mK,nN,oL,qH,sJ,uH]];exact ⟨_,rfl,St.dD (n:=1) (xs:=([(3,1048576)]:List (Nat×Int)).flatMap (cZ g)) 0 atU rfl rfl rfl⟩
 iterate 7 refine zQ ?_
 by_cases wD:x.kd=5
 ·iterate 6 refine zQ ?_
  have acp:=wz.drew;refine aN 5 acp [] ?_;iterate 2 refine aF ?_
  refine aS 1 ?_;refine Dm 1 rfl acp ?_;intro aCu aCv atV;iterate 4 refine aF ?_
  iterate 5 refine zQ ?_
  rw [show aI x.kd x.ek=⟨#[108,111,115,101]⟩ from by simp [aI,mK,nN,oL,qH,sJ,uH,wD]];have atW:=atV.aR [4,3,2,1];rw [show aX x.kd x.ek=some [(3,1048576)] from by simp [aX,mK,nN,oL,qH,sJ,uH,wD]];exact ⟨_,rfl,St.dD (n:=1) (xs:=([(3,1048576)]:List (Nat×Int)).flatMap (cZ g)) 0 atW rfl rfl rfl⟩
 iterate 7 refine zQ ?_
 by_cases yZ:x.kd=6
 ·iterate 6 refine zQ ?_
  have ami:=wz.drew;refine aN 5 ami [] ?_;iterate 2 refine aF ?_
  refine aS 1 ?_;refine Dm 1 rfl ami ?_;intro aCw aCx atX;iterate 4 refine aF ?_
  iterate 5 refine zQ ?_
  rw [show aI x.kd x.ek=⟨#[100,111,117,98,108,101]⟩ from by simp [aI,mK,nN,oL,qH,sJ,uH,wD,yZ]];have atY:=atX.aR [4,3,2,1];rw [show aX x.kd x.ek=some [(3,1048576)] from by simp [aX,mK,nN,oL,qH,sJ,uH,wD,yZ]];exact ⟨_,rfl,St.dD (n:=1) (xs:=([(3,1048576)]:List (Nat×Int)).flatMap (cZ g)) 0 atY rfl rfl rfl⟩
 iterate 7 refine zQ ?_
 by_cases BQ:x.kd=7
 ·iterate 16 refine zQ ?_
  rw [show aI x.kd x.ek=⟨#[97,108,108]⟩ from by simp [aI,mK,nN,oL,qH,sJ,uH,wD,yZ,BQ]];have atZ:=wz.aR [3,2,1,0];rw [show aX x.kd x.ek=some [] from by simp [aX,mK,nN,oL,qH,sJ,uH,wD,yZ,BQ]];exact ⟨none,rfl,aJ atZ⟩
 iterate 7 refine zQ ?_
 by_cases E8:x.kd=2
 ·iterate 18 refine zQ ?_
  refine vv (v:=iV x.ek) (aj rfl rfl (aA Tryz.underlying3 rfl (Rd.cl (j:=5) (St.rd 3 wz rfl) rfl))) ?_;iterate 5 refine zQ ?_
  by_cases J2:x.ek=1
  ·iterate 6 refine zQ ?_
   have Wq:=wz.drew;refine aN 18 Wq [] ?_;iterate 5 refine aF ?_
   refine ak (v:= .agg #[pV g 6,iV 3]) 5 rfl Wq (fun _ _=>gZ) ?_;iterate 3 refine aF ?_
   refine ak (v:= .agg #[pV g 7,iV 1073741824]) 9 rfl Wq (fun _ _=>gZ) ?_;iterate 3 refine aF ?_
   refine ak (v:= .agg #[pV g 8,iV 1000000]) 13 rfl Wq (fun _ _=>gZ) ?_;refine aF ?_;refine aS 14 ?_;refine jr (i:=14) rfl rfl (V:=fun b=> .slice (aD b 0) 5 5) (row:= #[pV g 1,iV 4,pV g 2,iV 3,pV g 6,iV 3,pV g 7,iV 1073741824,pV g 8,iV 1000000]) (t:=164) Wq (wn rfl) rfl rfl (aK (vs:=[(0,.agg #[pV g 1,iV 4]),(1,.agg #[pV g 2,iV 3]),(2,.agg #[pV g 6,iV 3]),(3,.agg #[pV g 7,iV 1073741824]),(4,.agg #[pV g 8,iV 1000000])]) rfl ⟨rfl,rfl,rfl,rfl,rfl,rfl,rfl,rfl,rfl,rfl,trivial⟩ (by kernel_rfl)) ?_;intro aCy aCz at0;iterate 4 refine aF ?_
   iterate 6 refine zQ ?_
   rw [show aI x.kd x.ek=⟨#[112,117,98,108,105,115,104]⟩ from by simp [aI,mK,nN,oL,qH,sJ,uH,wD,yZ,BQ,E8,J2]];have at1:=at0.aR [4,3,2,1];rw [show aX x.kd x.ek=some [(1,4),(2,3),(6,3),(7,1073741824),(8,1000000)] from by simp [aX,mK,nN,oL,qH,sJ,uH,wD,yZ,BQ,E8,J2]];exact ⟨_,rfl,St.dD (n:=5) (xs:=([(1,4),(2,3),(6,3),(7,1073741824),(8,1000000)]:List (Nat×Int)).flatMap (cZ g)) 0 at1 rfl rfl rfl⟩
  iterate 7 refine zQ ?_
  by_cases Rf:x.ek=2
  ·iterate 6 refine zQ ?_
   have acr:=wz.drew;refine aN 6 acr [] ?_;iterate 3 refine aF ?_
   refine aS 2 ?_;refine jr (i:=2) rfl rfl (V:=fun b=> .slice (aD b 0) 2 2) (row:= #[pV g 1,iV 4,pV g 2,iV 3]) (t:=164) acr (wn rfl) rfl rfl (aK (vs:=[(0,.agg #[pV g 1,iV 4]),(1,.agg #[pV g 2,iV 3])]) rfl ⟨rfl,rfl,rfl,rfl,trivial⟩ (by kernel_rfl)) ?_;intro aCA aCB at5;iterate 4 refine aF ?_
   iterate 6 refine zQ ?_
   rw [show aI x.kd x.ek=⟨#[114,101,99,101,105,118,101]⟩ from by simp [aI,mK,nN,oL,qH,sJ,uH,wD,yZ,BQ,E8,J2,Rf]];have at6:=at5.aR [4,3,2,1];rw [show aX x.kd x.ek=some [(1,4),(2,3)] from by simp [aX,mK,nN,oL,qH,sJ,uH,wD,yZ,BQ,E8,J2,Rf]];exact ⟨_,rfl,St.dD (n:=2) (xs:=([(1,4),(2,3)]:List (Nat×Int)).flatMap (cZ g)) 0 at6 rfl rfl rfl⟩
  iterate 7 refine zQ ?_
  by_cases acs:x.ek=3
  ·iterate 6 refine zQ ?_
   have acu:=wz.drew;refine aN 16 acu [] ?_;iterate 6 refine aF ?_
   refine ak (v:= .agg #[pV g 9,iV 1048576]) 6 rfl acu (fun _ _=>gZ) ?_;iterate 4 refine aF ?_
   refine ak (v:= .agg #[pV g 10,iV 1073741824]) 11 rfl acu (fun _ _=>gZ) ?_;refine aF ?_;refine aS 12 ?_;refine jr (i:=12) rfl rfl (V:=fun b=> .slice (aD b 0) 4 4) (row:= #[pV g 1,iV 4,pV g 2,iV 3,pV g 9,iV 1048576,pV g 10,iV 1073741824]) (t:=164) acu (wn rfl) rfl rfl (aK (vs:=[(0,.agg #[pV g 1,iV 4]),(1,.agg #[pV g 2,iV 3]),(2,.agg #[pV g 9,iV 1048576]),(3,.agg #[pV g 10,iV 1073741824])]) rfl ⟨rfl,rfl,rfl,rfl,rfl,rfl,rfl,rfl,trivial⟩ (by kernel_rfl)) ?_;intro aCC aCD at7;iterate 4 refine aF ?_
   iterate 6 refine zQ ?_
   rw [show aI x.kd x.ek=⟨#[97,99,107]⟩ from by simp [aI,mK,nN,oL,qH,sJ,uH,wD,yZ,BQ,E8,J2,Rf,acs]];have acv:=at7.aR [4,3,2,1];rw [show aX x.kd x.ek=some [(1,4),(2,3),(9,1048576),(10,1073741824)] from by simp [aX,mK,nN,oL,qH,sJ,uH,wD,yZ,BQ,E8,J2,Rf,acs]];exact ⟨_,rfl,St.dD (n:=4) (xs:=([(1,4),(2,3),(9,1048576),(10,1073741824)]:List (Nat×Int)).flatMap (cZ g)) 0 acv rfl rfl rfl⟩
  iterate 18 refine zQ ?_
  rw [show aI x.kd x.ek=⟨#[]⟩ from by simp [aI,mK,nN,oL,qH,sJ,uH,wD,yZ,BQ,E8,J2,Rf,acs]];rw [show aX x.kd x.ek=none from by simp [aX,mK,nN,oL,qH,sJ,uH,wD,yZ,BQ,E8,J2,Rf,acs]];exact ⟨rfl,wz.low⟩
 iterate 17 refine zQ ?_
 rw [show aI x.kd x.ek=⟨#[]⟩ from by simp [aI,mK,nN,oL,qH,sJ,uH,wD,yZ,BQ,E8]];rw [show aX x.kd x.ek=none from by simp [aX,mK,nN,oL,qH,sJ,uH,wD,yZ,BQ,E8]];exact ⟨rfl,wz.low⟩
end Go.Proofs.YtbffmhpkenoogaaGreatDoor
