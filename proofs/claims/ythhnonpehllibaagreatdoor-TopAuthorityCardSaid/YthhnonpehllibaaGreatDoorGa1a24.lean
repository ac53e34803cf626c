import Derived.Test.YthhnonpehllibaaGreatDoorG055e2
import Derived.Test.YthhnonpehllibaaGreatDoorG332af
set_option maxRecDepth 100000
set_option maxHeartbeats 8000000
namespace Go.Proofs.YthhnonpehllibaaGreatDoor
open ChangeShapes WideShapes RowKit
structure fV where
 no:Int
 body:Int
 deriving DecidableEq
structure Ls where
 eD:Int
 hno:Int
 msg:fV
 deriving DecidableEq
structure jX where
 a:kI
 b:kI
 c:kI
 d:kI
 deriving DecidableEq
structure Qd where
 ep:Int
 nx:Int
 gv:Int
 ready:List fV
 bO:List Ls
 ws:jX
 deriving DecidableEq
def fV.cells (m:fV):List Value:=[iV m.no,iV m.body]
def Ls.cells (x:Ls):List Value:=[iV x.eD,iV x.hno,iV x.msg.no,iV x.msg.body]
def jX.cells (x:jX):List Value:=x.a.cells++(x.b.cells++(x.c.cells++x.d.cells))
def jX.at (x:jX) (p:Nat):kI:=if p=0 then x.a else if p=1 then x.b else if p=2 then x.c else x.d
def jX.put (x:jX) (p:Nat) (y:kI):jX:=if p=0 then { x with a:=y } else if p=1 then { x with b:=y } else if p=2 then { x with c:=y } else { x with d:=y }
theorem jX.len (x:jX):x.cells.length=36:=rfl
theorem kI.len (x:kI):x.cells.length=9:=rfl
def cZ (e n g:Int) (r l:Value) (W:jX):Array Value:=(iV e::iV n::iV g::r::l::W.cells).toArray
def jy:jX:=⟨Al,Al,Al,Al⟩
section
variable {e n g:Int} {r l:Value} {W:jX}
theorem xG:(cZ e n g r l W).size=41:=rfl
theorem xS:(cZ e n g r l W)[0]? =some (iV e):=rfl
theorem Av:(cZ e n g r l W)[1]? =some (iV n):=rfl
theorem Aw:(cZ e n g r l W)[2]? =some (iV g):=rfl
theorem pz:(cZ e n g r l W)[3]? =some r:=rfl
theorem sZ:(cZ e n g r l W)[4]? =some l:=rfl
theorem ahe: ∀ (j:Nat) (u:Value),W.cells[j]? =some u->(cZ e n g r l W)[5+j]? =some u:=nS (m:=36) rfl
theorem ahf: ∀ (j:Nat) (u:Value),(W.at 0).cells[j]? =some u->(cZ e n g r l W)[5+j]? =some u:=nS (m:=9) rfl
theorem ahg: ∀ (j:Nat) (u:Value),(W.at 1).cells[j]? =some u->(cZ e n g r l W)[14+j]? =some u:=nS (m:=9) rfl
theorem ahh: ∀ (j:Nat) (u:Value),(W.at 2).cells[j]? =some u->(cZ e n g r l W)[23+j]? =some u:=nS (m:=9) rfl
theorem ahi: ∀ (j:Nat) (u:Value),(W.at 3).cells[j]? =some u->(cZ e n g r l W)[32+j]? =some u:=nS (m:=9) rfl
theorem ahj {z:Int}:cu (cZ e n g r l W) 0 [iV z]=cZ z n g r l W:=rfl
theorem ahk {z:Int}:cu (cZ e n g r l W) 1 [iV z]=cZ e z g r l W:=rfl
theorem Ym {z:Int}:cu (cZ e n g r l W) 2 [iV z]=cZ e n z r l W:=rfl
theorem IB {z:Value}:cu (cZ e n g r l W) 3 [z]=cZ e n g z l W:=rfl
theorem IC {z:Value}:cu (cZ e n g r l W) 4 [z]=cZ e n g r z W:=rfl
theorem ahl {x:kI}:cu (cZ e n g r l W) 5 x.cells=cZ e n g r l (W.put 0 x):=by
 apply Array.toList_inj.1;rw [gU _ _ _ (by rw [xG,kI.len];omega)];rfl
theorem ahm {x:kI}:cu (cZ e n g r l W) 14 x.cells=cZ e n g r l (W.put 1 x):=by
 apply Array.toList_inj.1;rw [gU _ _ _ (by rw [xG,kI.len];omega)];rfl
theorem ahn {x:kI}:cu (cZ e n g r l W) 23 x.cells=cZ e n g r l (W.put 2 x):=by
 apply Array.toList_inj.1;rw [gU _ _ _ (by rw [xG,kI.len];omega)];rfl
theorem aho {x:kI}:cu (cZ e n g r l W) 32 x.cells=cZ e n g r l (W.put 3 x):=by
 apply Array.toList_inj.1;rw [gU _ _ _ (by rw [xG,kI.len];omega)];rfl
theorem IE (x:kI): ∀ u∈x.cells,u.oneCell'=true:=bX rfl
theorem adJ (x:jX): ∀ u∈x.cells,u.oneCell'=true:=bX rfl
theorem JV (hr:r.oneCell'=true) (hl:l.oneCell'=true): ∀ u∈(cZ e n g r l W).toList,u.oneCell'=true:=by
 intro u hu;simp only [cZ,List.mem_cons] at hu
 rcases hu with rfl | rfl | rfl | rfl | rfl | hu
 ·rfl
 ·rfl
 ·rfl
 ·exact hr
 ·exact hl
 exact adJ W u hu
end
def Vt (w:World) (k:Int) (e:Ending) (w':World):Prop:=e= .returned (iV k)/\Below w.heap.size w w'
def Fb (w:World) (b:Bool) (e:Ending) (w':World):Prop:=e= .returned (.bool b)/\Below w.heap.size w w'
def qW (nx:Int) (m:fV):Bool:=decide (0<=m.no/\m.no<nx/\0<=m.body/\m.body<=1000000)
theorem wY {nx:Int} {m:fV} (h:qW nx m=true):0<=m.no/\m.no<nx/\0<=m.body/\m.body<=1000000:=of_decide_eq_true h
def jN (nx:Int):Int->List fV->Bool
 | _,[]=>true
 | p,m::r=>(qW nx m&&decide (p<m.no))&&jN nx m.no r
def Lh (ep nx gv p:Int) (x:Ls):Bool:=qW nx x.msg&&decide (x.eD=ep/\p<x.hno/\x.hno<gv)
def kV (ep nx gv:Int):Int->List Ls->Bool
 | _,[]=>true
 | p,x::r=>Lh ep nx gv p x&&kV ep nx gv x.hno r
def nH (rs:List fV) (ls:List Ls):List Int:=rs.map (·.no)++ls.map (·.msg.no)
def QY (ep nx gv:Int) (rs:List fV) (ls:List Ls):Prop:=0<=ep/\ep<=1048576/\0<=nx/\nx<=1073741824/\0<=gv/\gv<=1073741824/\rs.length+ls.length<=500
def zx (W:jX):Prop:= ∀ j,j<4->dK (W.at j)=0
open Classical in
noncomputable def fQ (ep nx gv:Int) (rs:List fV) (ls:List Ls) (W:jX):Int:=
 if ¬ QY ep nx gv rs ls then 6 else if ¬ zx W then 6 else if jN nx (-1) rs=true/\kV ep nx gv (-1) ls=true/\(nH rs ls).Nodup then 0 else 6
section
variable {ep nx gv p:Int} {rs:List fV} {ls:List Ls} {W:jX}
theorem Ci (h: ¬ (0<=ep/\ep<=1048576/\0<=nx/\nx<=1073741824/\0<=gv/\gv<=1073741824/\rs.length+ls.length<=500)):fQ ep nx gv rs ls W=6:=if_pos h
theorem zy (h: ¬ (zx W/\jN nx (-1) rs=true/\kV ep nx gv (-1) ls=true/\(nH rs ls).Nodup)):fQ ep nx gv rs ls W=6:=by
 unfold fQ
 split
 ·rfl
 split
 ·rfl
 rename_i h1 h2
 rw [if_neg (λh3=>h ⟨Classical.not_not.1 h2,h3⟩)]
theorem amB {j:Nat} (hj:j<4) (h:dK (W.at j)≠0):fQ ep nx gv rs ls W=6:=zy λh1=>h (h1.1 j hj)
theorem aqQ (h0:QY ep nx gv rs ls) (h1:zx W) (h2:jN nx (-1) rs=true) (h3:kV ep nx gv (-1) ls=true) (h4:(nH rs ls).Nodup):fQ ep nx gv rs ls W=0:=by
 unfold fQ;rw [if_neg (λh=>h h0),if_neg (λh=>h h1),if_pos ⟨h2,h3,h4⟩]
theorem JW {k:Nat} {m:fV} (h:rs[k]? =some m):jN nx p (rs.drop k)=((qW nx m&&decide (p<m.no))&&jN nx m.no (rs.drop (k+1))):=by
 obtain ⟨hk,hm⟩:=List.getElem?_eq_some_iff.1 h;rw [List.drop_eq_getElem_cons hk,hm];rfl
theorem DK {k:Nat} {x:Ls} (h:ls[k]? =some x):kV ep nx gv p (ls.drop k)=(Lh ep nx gv p x&&kV ep nx gv x.hno (ls.drop (k+1))):=by
 obtain ⟨hk,hm⟩:=List.getElem?_eq_some_iff.1 h;rw [List.drop_eq_getElem_cons hk,hm];rfl
theorem JX {α β:Type} {f:α->β} {l:List α} {k:Nat} {x:α} (h:l[k]? =some x):(l.take k).map f++[f x]=(l.take (k+1)).map f:=by
 rw [List.take_add_one,h];simp
theorem ahp (x:kI):dK x=0\/dK x=6:=by unfold dK;split<;>simp
end
theorem TH (W:jX) (w:World):(Instr.index 167 (.agg W.cells.toArray) (iV 0)).run Tryz.prog w= .ok (.agg (W.at 0).cells.toArray) w:=by kernel_rfl
theorem TI (W:jX) (w:World):(Instr.index 167 (.agg W.cells.toArray) (iV 1)).run Tryz.prog w= .ok (.agg (W.at 1).cells.toArray) w:=by kernel_rfl
theorem TJ (W:jX) (w:World):(Instr.index 167 (.agg W.cells.toArray) (iV 2)).run Tryz.prog w= .ok (.agg (W.at 2).cells.toArray) w:=by kernel_rfl
theorem TK (W:jX) (w:World):(Instr.index 167 (.agg W.cells.toArray) (iV 3)).run Tryz.prog w= .ok (.agg (W.at 3).cells.toArray) w:=by kernel_rfl
theorem WT (W:jX) (k:Nat) (hk:k<4) (w:World):(Instr.index 167 (.agg W.cells.toArray) (iV k)).run Tryz.prog w= .ok (.agg (W.at k).cells.toArray) w:=by
 have h:k=0\/k=1\/k=2\/k=3:=by omega
 rcases h with rfl | rfl | rfl | rfl
 ·exact TH W w
 ·exact TI W w
 ·exact TJ W w
 exact TK W w
theorem ahq {e n g:Int} {r l:Value} {W:jX} {k:Nat} (hk:k<4): ∀ (j:Nat) (u:Value),(W.at k).cells[j]? =some u->(cZ e n g r l W)[5+k*9+j]? =some u:=by
 have h:k=0\/k=1\/k=2\/k=3:=by omega
 rcases h with rfl | rfl | rfl | rfl
 ·exact ahf
 ·exact ahg
 ·exact ahh
 exact ahi
theorem jO {α:Type} {enc:α->List Value} {l l':List α} {x:α} {cs:List Value} (h:l++[x]=l') (he:enc x=cs):l.flatMap enc++cs=l'.flatMap enc:=by
 subst h;subst he;simp
structure jc where
 code:Int
 eD:Int
 hno:Int
 body:Int
 deriving DecidableEq
def eP:jc:=⟨0,0,0,0⟩
def rX (k:Int):jc:=⟨k,0,0,0⟩
def jc.cells (a:jc):List Value:=[iV a.code,iV a.eD,iV a.hno,iV a.body]
def jc.val (a:jc):Value:= .agg #[iV a.code,iV a.eD,iV a.hno,iV a.body]
def Cu (Q:Qd) (k:Nat) (id bd:Int):Qd×jc×Bool:=
 if (iX (Q.ws.at k) id).2.2≠0 then (Q,rX (iX (Q.ws.at k) id).2.2,false)
 else if (iX (Q.ws.at k) id).2.1=false then (Q,eP,false)
 else if Q.ready.length+Q.bO.length=500\/Q.nx=1073741824 then (Q,rX 14,false)
 else (⟨Q.ep,Q.nx+1,Q.gv,Q.ready++[⟨Q.nx,bd⟩],Q.bO,Q.ws.put k (iX (Q.ws.at k) id).1⟩,eP,true)
def IG (Q:Qd):Qd×jc×Bool:=match Q.ready with
 | []=>(Q,rX 10,false)
 | m::rest=>if Q.gv=1073741824 then (Q,rX 14,false) else (⟨Q.ep,Q.nx,Q.gv+1,rest,Q.bO++[⟨Q.ep,Q.gv,m⟩],Q.ws⟩,⟨0,Q.ep,Q.gv,m.body⟩,true)
def Ga (Q:Qd) (he hn:Int):Qd×jc×Bool:=
 if he≠Q.ep then (Q,rX 11,false)
 else if (Q.bO.filter λx=>decide (x.hno≠hn)).length=Q.bO.length then (Q,rX 7,false)
 else (⟨Q.ep,Q.nx,Q.gv,Q.ready,Q.bO.filter λx=>decide (x.hno≠hn),Q.ws⟩,eP,true)
def jP (m:fV):List fV->List fV
 | []=>[m]
 | x::l=>if m.no<x.no then m::x::l else x::jP m l
def Li (Q:Qd):Qd×jc×Bool:=
 if Q.ep=1048576 then (Q,rX 14,false)
 else (⟨Q.ep+1,Q.nx,0,Q.bO.foldl (λl x=>jP x.msg l) Q.ready,[],Q.ws⟩,eP,true)
section
variable {ep nx gv bd id he hn:Int} {rs:List fV} {ls:List Ls} {W:jX} {k:Nat}
theorem ahr (h: ¬ (iX (W.at k) id).2.2=0):Cu ⟨ep,nx,gv,rs,ls,W⟩ k id bd=(⟨ep,nx,gv,rs,ls,W⟩,rX (iX (W.at k) id).2.2,false):=if_pos h
theorem ahs (h:(iX (W.at k) id).2.2=0) (h1:(iX (W.at k) id).2.1=false):Cu ⟨ep,nx,gv,rs,ls,W⟩ k id bd=(⟨ep,nx,gv,rs,ls,W⟩,eP,false):=by
 unfold Cu;rw [if_neg (λh2=>h2 h),if_pos h1]
theorem RO (h:(iX (W.at k) id).2.2=0) (h1:(iX (W.at k) id).2.1=true) (h2:rs.length+ls.length=500\/nx=1073741824):Cu ⟨ep,nx,gv,rs,ls,W⟩ k id bd=(⟨ep,nx,gv,rs,ls,W⟩,rX 14,false):=by
 unfold Cu;rw [if_neg (λh2=>h2 h),if_neg (λh3=>by rw [h1] at h3;cases h3),if_pos h2]
theorem amC (h:(iX (W.at k) id).2.2=0) (h1:(iX (W.at k) id).2.1=true) (h2: ¬ (rs.length+ls.length=500\/nx=1073741824)):Cu ⟨ep,nx,gv,rs,ls,W⟩ k id bd=(⟨ep,nx+1,gv,rs++[⟨nx,bd⟩],ls,W.put k (iX (W.at k) id).1⟩,eP,true):=by
 unfold Cu;rw [if_neg (λh2=>h2 h),if_neg (λh3=>by rw [h1] at h3;cases h3),if_neg h2]
theorem adK (h:rs.length=0):IG ⟨ep,nx,gv,rs,ls,W⟩=(⟨ep,nx,gv,rs,ls,W⟩,rX 10,false):=by
 cases rs with
 | nil=>rfl
 | cons m r=>simp at h
theorem adL (h: ¬ rs.length=0) (h1:gv=1073741824):IG ⟨ep,nx,gv,rs,ls,W⟩=(⟨ep,nx,gv,rs,ls,W⟩,rX 14,false):=by
 cases rs with
 | nil=>simp at h
 | cons m r=>exact if_pos h1
theorem amD {m:fV} (h:rs[0]? =some m) (h1: ¬ gv=1073741824):IG ⟨ep,nx,gv,rs,ls,W⟩=(⟨ep,nx,gv+1,rs.drop 1,ls++[⟨ep,gv,m⟩],W⟩,⟨0,ep,gv,m.body⟩,true):=by
 cases rs with
 | nil=>simp at h
 | cons m r=>
  simp at h;subst h;exact if_neg h1
theorem Zx (h: ¬ he=ep):Ga ⟨ep,nx,gv,rs,ls,W⟩ he hn=(⟨ep,nx,gv,rs,ls,W⟩,rX 11,false):=if_pos h
theorem adM (h:he=ep) (h1:(ls.filter λx=>decide (x.hno≠hn)).length=ls.length):Ga ⟨ep,nx,gv,rs,ls,W⟩ he hn=(⟨ep,nx,gv,rs,ls,W⟩,rX 7,false):=by
 unfold Ga;rw [if_neg (λh2=>h2 h),if_pos h1]
theorem amE (h:he=ep) (h1: ¬ (ls.filter λx=>decide (x.hno≠hn)).length=ls.length):Ga ⟨ep,nx,gv,rs,ls,W⟩ he hn=(⟨ep,nx,gv,rs,ls.filter λx=>decide (x.hno≠hn),W⟩,eP,true):=by
 unfold Ga;rw [if_neg (λh2=>h2 h),if_neg h1]
theorem adN (h:ep=1048576):Li ⟨ep,nx,gv,rs,ls,W⟩=(⟨ep,nx,gv,rs,ls,W⟩,rX 14,false):=if_pos h
theorem amF (h: ¬ ep=1048576):Li ⟨ep,nx,gv,rs,ls,W⟩=(⟨ep+1,nx,0,ls.foldl (λl x=>jP x.msg l) rs,[],W⟩,eP,true):=if_neg h
end
theorem aht {e n g:Int} {r l:Value} {W:jX} {x:kI} {k:Nat} (hk:k<4):cu (cZ e n g r l W) (5+k*9) x.cells=cZ e n g r l (W.put k x):=by
 match k,hk with
 | 0,_=>exact ahl
 | 1,_=>exact ahm
 | 2,_=>exact ahn
 | 3,_=>exact aho
def Eo (B:Nat) (w0:World) (g:Nat) (fs:List Fact) (r:Qd×jc×Bool) (e:Ending) (w':World):Prop:=
 e= .returned (.tuple #[r.2.1.val,.bool r.2.2])/\ ∃ A1 c1 A2 c2,St B w0 w' (.blk g (cZ r.1.ep r.1.nx r.1.gv (.slice A1 r.1.ready.length c1) (.slice A2 r.1.bO.length c2) r.1.ws) 206:: .cB 2 A1 r.1.ready.length (r.1.ready.flatMap fV.cells):: .cB 4 A2 r.1.bO.length (r.1.bO.flatMap Ls.cells)::fs)
instance:zu fV where
 size:=2
 ints m:=[m.no,m.body]
 of xs:=⟨xs.getD 0 0,xs.getD 1 0⟩
 pos:=by decide
 len _:=rfl
 inv xs h:=by
  match xs,h with
  | [a,b],_=>rfl
instance:zu Ls where
 size:=4
 ints m:=[m.eD,m.hno,m.msg.no,m.msg.body]
 of xs:=⟨xs.getD 0 0,xs.getD 1 0,⟨xs.getD 2 0,xs.getD 3 0⟩⟩
 pos:=by decide
 len _:=rfl
 inv xs h:=by
  match xs,h with
  | [a,b,c,d],_=>rfl
theorem adO (l:List fV): ∀ u∈l.flatMap fV.cells,u.oneCell'=true:=EU l
theorem Yn (l:List Ls): ∀ u∈l.flatMap Ls.cells,u.oneCell'=true:=EU l
section
variable {P:Program} {w:World} {t e:TypeId} {xo yo:Operand}
theorem vG {A:Option Addr} {n c:Nat} (h:P.underlying t=some (.slice e)):(do eqGuard .eql t xo yo (.slice A n c) (.slice none 0 0);binOp .eql t (.slice A n c) (.slice none 0 0):Sem Value).run P w= .ok (.bool A.isNone) w:=by
 rw [Sem.run_bind,show (eqGuard .eql t xo yo (.slice A n c) (.slice none 0 0)).run P w= .ok () w from rfl];exact Lib.run_eql_slice_nil w t e A n c 0 0 h
end
theorem II {w:World} {B s n:Nat} {xs:List Value} (h:Rd w B s none n xs):n=0/\xs=[]:=by
 have h1:n=0:=by
  rcases Nat.eq_zero_or_pos n with h0 | h0
  ·exact h0
  obtain ⟨b,off,e,_⟩:=h.2 h0
  cases e
 subst h1;exact ⟨rfl,List.eq_nil_of_length_eq_zero (by have:=h.1;omega)⟩
theorem P8 (A:Option Addr) (n c:Nat) (l:List Value) (w:World) (h:Rd w w.heap.size 2 A n l) (hone: ∀ u∈l,u.oneCell'=true) (hc:n*16<=reachBytes):
    Calls Tryz.prog 114 #[.slice A n c] w (jo w 209 2 n l):=by
 unfold reachBytes at hc;have S:=(St.start w).bV h;refine gu 8 Tryz.func114 ?_;refine cw [0] ?_;refine zN 9 ?_
 cases A with
 | none=>
  obtain ⟨rfl,rfl⟩:=II h;refine vv (v:= .bool true) (aL rfl rfl rfl (vG Tryz.underlying162)) ?_;refine zN 11 ?_;exact jo.of (Below.refl _ _) (je _ _ _ _)
 | some a=>
  refine vv (v:= .bool false) (aL rfl rfl rfl (vG Tryz.underlying162)) ?_;refine zN 7 ?_;refine qG (V:=λb=> .slice (aD b 0) 0 0) (row:= #[]) (t:=209) (n:=0) (s:=2) (xs:=[]) S (wn rfl) rfl rfl (aV (vs:=[]) rfl trivial (by kernel_rfl)) (by simp) (Nat.zero_le _) rfl ?_;intro b1 w2 S3;refine zQ ?_;refine eB (news:=l) (xs':=l) 0 S3 (wn rfl) rfl rfl rfl rfl rfl rfl (St.rd 1 S3 rfl) Tryz.underlying162 UC rfl (by decide) hone (by simp only [maxLen];omega) (by omega) rfl ?_;intro A4 c5 w6 hc8 qI S7;refine zN 5 ?_;have oG:=S7.aS [1];have ho:=oG.own 0 rfl;simp only [Nat.zero_add] at ho⊢;exact jo.of oG.low ho
theorem P9 (A:Option Addr) (n c:Nat) (l:List Value) (w:World) (h:Rd w w.heap.size 4 A n l) (hone: ∀ u∈l,u.oneCell'=true) (hc:n*32<=reachBytes):
    Calls Tryz.prog 115 #[.slice A n c] w (jo w 212 4 n l):=by
 unfold reachBytes at hc;have S:=(St.start w).bV h;refine gu 8 Tryz.func115 ?_;refine cw [0] ?_;refine zN 9 ?_
 cases A with
 | none=>
  obtain ⟨rfl,rfl⟩:=II h;refine vv (v:= .bool true) (aL rfl rfl rfl (vG Tryz.underlying163)) ?_;refine zN 11 ?_;exact jo.of (Below.refl _ _) (je _ _ _ _)
 | some a=>
  refine vv (v:= .bool false) (aL rfl rfl rfl (vG Tryz.underlying163)) ?_;refine zN 7 ?_;refine qG (V:=λb=> .slice (aD b 0) 0 0) (row:= #[]) (t:=212) (n:=0) (s:=4) (xs:=[]) S (wn rfl) rfl rfl (aV (vs:=[]) rfl trivial (by kernel_rfl)) (by simp) (Nat.zero_le _) rfl ?_;intro b1 w2 S3;refine zQ ?_;refine eB (news:=l) (xs':=l) 0 S3 (wn rfl) rfl rfl rfl rfl rfl rfl (St.rd 1 S3 rfl) Tryz.underlying163 acC rfl (by decide) hone (by simp only [maxLen];omega) (by omega) rfl ?_;intro A4 c5 w6 hc8 qI S7;refine zN 5 ?_;have oG:=S7.aS [1];have ho:=oG.own 0 rfl;simp only [Nat.zero_add] at ho⊢;exact jo.of oG.low ho
theorem C9 (e nx g:Int) (r l:Value) (W:jX) (m:fV) (w:World):
    Calls Tryz.prog 121 #[.agg (cZ e nx g (r) (l) W),.agg #[iV m.no,iV m.body]] w (Fb w (qW nx m)):=by
 have S:=St.start w;refine gu 25 Tryz.func121 ?_;refine cw [0,1] ?_;refine zN 2 ?_;refine iK S ?_;intro b1 w2 S3;refine iK S3 ?_;intro b4 w5 S6;refine zN 7 ?_;by_cases h7:0<=m.no
 ·refine zN 5 ?_;refine vg (aj rfl rfl (ay Tryz.underlying3 rfl (St.cl 1 S6 rfl Av))) ?_;by_cases h8:m.no<nx
  ·refine zN 5 ?_;by_cases h9:0<=m.body
   ·refine zN 5 ?_;by_cases h10:m.body<=1000000
    ·refine zN 7 ?_;refine ⟨?_,S6.low⟩;rw [show qW nx m=true from decide_eq_true ⟨‹_›,‹_›,‹_›,‹_›⟩];rfl
    refine zN 7 ?_;refine ⟨?_,S6.low⟩;rw [show qW nx m=false from decide_eq_false (λh=>absurd h.2.2.2 ‹_›)];rfl
   refine zN 12 ?_;refine ⟨?_,S6.low⟩;rw [show qW nx m=false from decide_eq_false (λh=>absurd h.2.2.1 ‹_›)];rfl
  refine zN 17 ?_;refine ⟨?_,S6.low⟩;rw [show qW nx m=false from decide_eq_false (λh=>absurd h.2.1 ‹_›)];rfl
 refine zN 23 ?_;refine ⟨?_,S6.low⟩;rw [show qW nx m=false from decide_eq_false (λh=>absurd h.1 ‹_›)];rfl
theorem MI {B g k c1 c2:Nat} {w0 w:World} {fs:List Fact} {A1 A2:Option Addr} {rs:List fV} {ls:List Ls} {W:jX} {ep nx gv kd id bd he hn:Int} (S:St B w0 w (.blk g (cZ ep nx gv (.slice A1 rs.length c1) (.slice A2 ls.length c2) W) 206:: .own 209 2 (.slice A1 rs.length c1) rs.length ((rs).flatMap fV.cells):: .own 212 4 (.slice A2 ls.length c2) ls.length ((ls).flatMap Ls.cells)::fs)) (hk:k<4) (hlen:rs.length+ls.length<=500) (hnx:0<=nx/\nx<=1073741824) (hgv:0<=gv/\gv<=1073741824) (eD:0<=ep/\ep<=1048576):
    Calls Tryz.prog 116 #[pV g 0,.agg #[iV kd,iV ((k:Nat):Int),iV id,iV bd,iV he,iV hn]] w (Eo B w0 g fs (Cu ⟨ep,nx,gv,rs,ls,W⟩ k id bd)):=by
 refine gu 94 Tryz.func116 ?_;refine cw [0,1] ?_;refine zN 2 ?_;refine iK S ?_;intro b1 w2 S3;refine fF S3 sW ?_;intro b4 w5 S6;refine zN 3 ?_;refine mF (X:=Nat) (λxv=>[(0,pV g 0),(3,pV b1 0),(4,pV b4 0),(5,.bool false),(6,pV xv 0),(7,.bool ((iX (W.at k) id).2.1)),(8,iV ((iX (W.at k) id).2.2))]) (λxv wr=>St B w0 wr ((.blk xv (((iX (W.at k) id).1.cells).toArray) 166)::(.blk b4 #[iV 0,iV 0,iV 0,iV 0] 101)::(.blk b1 #[iV kd,iV ((k:Nat):Int),iV id,iV bd,iV he,iV hn] 53)::(.blk g (cZ ep nx gv (.slice A1 rs.length c1) (.slice A2 ls.length c2) W) 206)::(.own 209 2 (.slice A1 rs.length c1) rs.length ((rs).flatMap fV.cells))::(.own 212 4 (.slice A2 ls.length c2) ls.length ((ls).flatMap Ls.cells))::fs)) ?_ ?_
 ·have S7:=S6.drew;refine aF 19 S7 [] ?_;refine aJ 6 ?_;refine ak (v:=pV g (5+k*9)) 6 rfl S7 (λ_ _=>(aO rfl rfl rfl (dL k Tryz.underlying167 EZ rfl hk))) ?_;refine ak (v:= .agg (((W.at k).cells).toArray)) 7 rfl S7 (λ_ ajK=>(aj rfl rfl (aA (cs:=(W.at k).cells) Tryz.underlying166 rfl EZ rfl (St.rg 2 ajK rfl (ahq hk))))) ?_;refine aJ 2 ?_;refine gZ (n:=8) (r:=10) (s:=15) (by kernel_rfl) ?_ ?_
  ·refine iO 10 rfl anw (GR (W.at k) id _) ?_;rintro _ Nz ⟨rfl,ajL⟩;refine ⟨_,rfl,?_⟩;have l5:=S7.on ajL;refine aJ 5 ?_;refine aW 15 ?_;refine kU 15 rfl l5 ajJ ?_;intro RP NA tQ;refine bZ ?_;refine aW 16 ?_;refine Zv 16 rfl 0 tQ EZ ?_ (h1:=IE _);intro Yo sM;refine aJ 4 ?_;refine dG RP ?_ ⟨rfl,rfl,rfl,rfl,rfl,rfl,rfl,trivial⟩;exact sM
  refine kU 15 rfl S7 ajJ ?_;intro b32 Zy qJ;refine bZ ?_;refine aW 10 ?_;refine iO 10 rfl anw (GR (W.at k) id _) ?_;rintro _ Yp ⟨rfl,ajM⟩;refine ⟨_,rfl,?_⟩;have nW:=qJ.on ajM;refine aJ 5 ?_;refine aW 16 ?_;refine Zv 16 rfl 0 nW EZ ?_ (h1:=IE _);intro UH qc;refine aJ 4 ?_;refine dG b32 ?_ ⟨rfl,rfl,rfl,rfl,rfl,rfl,rfl,trivial⟩;exact qc
 rintro b46 w47 vH
 try dsimp only at vH
 refine bC (l':=[(0,pV g 0),(3,pV b1 0),(4,pV b4 0),(5,.bool false),(6,pV b46 0),(7,.bool ((iX (W.at k) id).2.1)),(8,iV ((iX (W.at k) id).2.2))]) ⟨rfl,rfl,rfl,rfl,rfl,rfl,rfl,trivial⟩ (aK (Ei (aK (aC (vm ?_)))));by_cases h1:(iX (W.at k) id).2.2=0
 ·refine zN 8 ?_
  cases h2:(iX (W.at k) id).2.1
  ·refine zN 8 ?_;refine sa 1 vH dx ?_;intro Zz vS;refine zN 7 ?_;have uy:=vS.aS [2,1,0];have oq:=uy.bH 1 rfl;have za:=oq.bH 2 rfl;rw [ahs h1 h2];refine ⟨rfl,A1,c1,A2,c2,?_⟩;dsimp only;exact za
  refine zN 6 ?_;refine fC vH mixed (by kernel_rfl) ?_;refine zN 4 ?_;refine uv (v:= .slice A1 rs.length c1) (λ_ atD=>(aj rfl rfl (ay Tryz.underlying162 rfl (St.cl 3 atD rfl pz)))) ?_;refine zN 5 ?_;refine uv (v:= .slice A2 ls.length c2) (λ_ ZA=>(aj rfl rfl (ay Tryz.underlying163 rfl (St.cl 3 ZA rfl sZ)))) ?_;refine zQ ?_;refine uv (v:=iV ((rs.length+ls.length:Nat):Int)) (λ_ _=>gD) ?_;by_cases h3:rs.length+ls.length=500
  ·refine zN 10 ?_;refine eT λw71 Fe=>?_;refine zN 4 ?_;refine vv (v:= .agg #[iV 14,iV 0,iV 0,iV 0]) gF ?_;refine sa 1 Fe dx ?_;intro w73 Hf;refine zN 7 ?_;have Bb:=Hf.aS [2,1,0];have Jm:=Bb.bH 1 rfl;have Da:=Jm.bH 2 rfl;rw [RO h1 h2 (.inl h3)];refine ⟨rfl,A1,c1,A2,c2,?_⟩;dsimp only;exact Da
  refine zN 6 ?_;refine ug (v:=iV nx) (λ_ atE=>(aj rfl rfl (ay Tryz.underlying3 rfl (St.cl 3 atE rfl Av)))) ?_;by_cases h4:nx=1073741824
  ·refine zN 3 ?_;refine eT λw88 Jo=>?_;refine zN 4 ?_;refine vv (v:= .agg #[iV 14,iV 0,iV 0,iV 0]) gF ?_;refine sa 1 Jo dx ?_;intro w90 Mt;refine zN 7 ?_;have ze:=Mt.aS [2,1,0];have Db:=ze.bH 1 rfl;have Fg:=Db.bH 2 rfl;rw [RO h1 h2 (.inr h4)];refine ⟨rfl,A1,c1,A2,c2,?_⟩;dsimp only;exact Fg
  refine zN 3 ?_;refine eT λw98 UJ=>?_;refine zN 6 ?_;have rY:=UJ.drew;refine aF 9 rY [3] ?_;refine aJ 7 ?_;refine ak (v:=pV g (5+k*9)) 7 rfl (St.del 3 rY) (λ_ _=>(aO rfl rfl rfl (dL k Tryz.underlying167 EZ rfl hk))) ?_;refine aW 8 ?_;refine uo (i:=8) rfl rfl (cs:=((iX (W.at k) id).1.cells).toArray) (row':=cZ ep nx gv (.slice A1 rs.length c1) (.slice A2 ls.length c2) (W.put k (iX (W.at k) id).1)) (fs':=(.blk b46 (((iX (W.at k) id).1.cells).toArray) 166)::(.blk b4 #[iV 0,iV 0,iV 0,iV 0] 101)::(.blk b1 #[iV kd,iV ((k:Nat):Int),iV id,iV bd,iV he,iV hn] 53)::(.blk g (cZ ep nx gv (.slice A1 rs.length c1) (.slice A2 ls.length c2) (W.put k (iX (W.at k) id).1)) 206)::(.own 209 2 (.slice A1 rs.length c1) rs.length ((rs).flatMap fV.cells))::(.own 212 4 (.slice A2 ls.length c2) ls.length ((ls).flatMap Ls.cells))::fs) 3 rY (wn rfl) rfl rfl rfl rfl rfl rfl EZ rfl (IE _) (by rw [xG];omega) (aht hk) rfl ?_;intro ZB pK;refine aJ 2 ?_;refine zN 2 ?_;have Bc:=pK.drew;refine fq 20 16 Bc [4] ?_;iterate 5 refine gM ?_
  refine gk (v:= .slice A1 rs.length c1) 5 rfl (St.del 4 Bc) (λ_ aqR=>(aj rfl rfl (ay Tryz.underlying162 rfl (St.cl 3 aqR rfl pz)))) ?_;iterate 4 refine gM ?_
  refine gk (v:=iV nx) 10 rfl (St.del 4 Bc) (λ_ aqS=>(aj rfl rfl (ay Tryz.underlying3 rfl (St.cl 3 aqS rfl Av)))) ?_;iterate 2 refine gM ?_
  refine gk (v:= .agg #[iV nx,iV bd]) 13 rfl (St.del 4 Bc) (λ_ _=>gF) ?_;refine eU (m:=5) (r:=14) (by kernel_rfl) ?_;refine lQ (i:=14) rfl rfl (V:=λb=> .slice (aD b 0) 1 1) (row:= #[iV nx,iV bd]) (t:=209) Bc (wn rfl) rfl rfl (aV (vs:=[(0,.agg #[iV nx,iV bd])]) rfl ⟨rfl,rfl,trivial⟩ (by kernel_rfl)) ?_;intro ay4 ZC yh;refine gM ?_;refine eU (m:=4) (r:=15) (by kernel_rfl) ?_;refine kM (i:=15) rfl rfl (news:=[iV nx,iV bd]) (xs':=(rs++[(⟨nx,bd⟩:fV)]).flatMap fV.cells) 5 yh (wn rfl) rfl rfl rfl rfl rfl rfl (St.lY (xs:=[iV nx,iV bd]) 0 yh rfl rfl rfl) Tryz.underlying162 UC rfl (by decide) (bX rfl) (by simp only [maxLen];omega) (by omega) (jO (enc:=fV.cells) rfl rfl) ?_;intro atF c130 afv ayq ayr yj;refine gM ?_;refine dY (by kernel_rfl) rfl rfl rfl ?_;refine zN 3 ?_;refine jw 4 yj PZ ?_ (hs:=by exact IB);intro anF Bd;refine zQ ?_;refine iP ?_;refine zN 7 ?_;refine vv (aj rfl rfl (ay Tryz.underlying3 rfl (St.cl 4 Bd rfl Av))) ?_;refine vv (v:=iV (nx+1)) gD ?_;refine zN 3 ?_;refine jw 4 Bd lH ?_ (hs:=by exact ahk);intro anG Ep;refine zN 5 ?_;refine sa 2 Ep dx ?_;intro atG yt;refine zN 5 ?_;have ajN:=yt.aS [3,2,1,0];have IJ:=ajN.bH 1 rfl;have Lj:=IJ.bH 2 rfl;rw [amC h1 h2 (λh=>h.elim h3 h4)];have hln:=(by simp:(rs++[(⟨nx,bd⟩:fV)]).length=rs.length+1);refine ⟨rfl,atF,c130,A2,c2,?_⟩;dsimp only;rw [hln];exact Lj
 refine zN 8 ?_;refine vv (v:= .agg #[iV ((iX (W.at k) id).2.2),iV 0,iV 0,iV 0]) gF ?_;refine sa 1 vH dx ?_;intro afw Ll;refine zN 7 ?_;have QZ:=Ll.aS [2,1,0];have Q0:=QZ.bH 1 rfl;have Cv:=Q0.bH 2 rfl;rw [ahr h1];refine ⟨rfl,A1,c1,A2,c2,?_⟩;dsimp only;exact Cv
theorem dn {w:World} {base:Nat} {e:TypeId} {size:Nat} {A:Option Addr} {n c:Nat} {xs:List Value} (h:w.ownsRow base e size (.slice A n c) n xs):n<=c/\c<=maxLen:=by
 obtain ⟨A',c',e1,h1,h2⟩:=lZ h
 cases e1;exact ⟨h1,h2⟩
theorem Yq {α:Type} {enc:α->List Value} {sz:Nat} (hsz: ∀ x,(enc x).length=sz): ∀ (k:Nat) (l:List α),(l.flatMap enc).drop (k*sz)=(l.drop k).flatMap enc
 | 0,l=>by simp
 | k+1,[]=>by simp
 | k+1,x::l=>by rw [List.flatMap_cons,Nat.succ_mul,Nat.add_comm,<-List.drop_drop,List.drop_left' (hsz x),Yq hsz k l];rfl
theorem adP {w:World} {B:Nat} {A:Option Addr} {rs:List fV} (h:Rd w B 2 A (rs.length-1) (((rs.flatMap fV.cells).drop (1*2)).take ((rs.length-1)*2))):Rd w B 2 A (rs.length-1) ((rs.drop 1).flatMap fV.cells):=by
 rw [Yq (enc:=fV.cells) (sz:=2) (λ_=>rfl),List.take_of_length_le (by rw [iG (sz:=2) (λ_=>rfl),List.length_drop];exact Nat.le_refl _)] at h;exact h
theorem MJ {B g k c1 c2:Nat} {w0 w:World} {fs:List Fact} {A1 A2:Option Addr} {rs:List fV} {ls:List Ls} {W:jX} {ep nx gv kd id bd he hn:Int} (S:St B w0 w (.blk g (cZ ep nx gv (.slice A1 rs.length c1) (.slice A2 ls.length c2) W) 206:: .own 209 2 (.slice A1 rs.length c1) rs.length ((rs).flatMap fV.cells):: .own 212 4 (.slice A2 ls.length c2) ls.length ((ls).flatMap Ls.cells)::fs)) (hk:k<4) (hlen:rs.length+ls.length<=500) (hnx:0<=nx/\nx<=1073741824) (hgv:0<=gv/\gv<=1073741824) (eD:0<=ep/\ep<=1048576):
    Calls Tryz.prog 117 #[pV g 0,.agg #[iV kd,iV ((k:Nat):Int),iV id,iV bd,iV he,iV hn]] w (Eo B w0 g fs (IG ⟨ep,nx,gv,rs,ls,W⟩)):=by
 refine gu 80 Tryz.func117 ?_;refine cw [0,1] ?_;refine zN 2 ?_;refine iK S ?_;intro b1 w2 S3;refine fF S3 sW ?_;intro b4 w5 S6;refine zN 11 ?_;refine vv (aj rfl rfl (ay Tryz.underlying162 rfl (St.cl 2 S6 rfl pz))) ?_;refine zQ ?_;by_cases h1:rs.length=0
 ·refine zN 7 ?_;refine vv (v:= .agg #[iV 10,iV 0,iV 0,iV 0]) gF ?_;refine sa 0 S6 dx ?_;intro w7 S8;refine zN 7 ?_;have S9:=S8.aS [1,0];have oG:=S9.bH 1 rfl;have qw:=oG.bH 2 rfl;rw [adK h1];refine ⟨rfl,A1,c1,A2,c2,?_⟩;dsimp only;exact qw
 refine zN 11 ?_;refine vv (aj rfl rfl (ay Tryz.underlying3 rfl (St.cl 2 S6 rfl Aw))) ?_;by_cases h2:gv=1073741824
 ·refine zN 7 ?_;refine vv (v:= .agg #[iV 14,iV 0,iV 0,iV 0]) gF ?_;refine sa 0 S6 dx ?_;intro ZE wD;refine zN 7 ?_;have kr:=wD.aS [1,0];have gJ:=kr.bH 1 rfl;have kN:=gJ.bH 2 rfl;rw [adL h1 h2];refine ⟨rfl,A1,c1,A2,c2,?_⟩;dsimp only;exact kN
 refine zN 9 ?_;have lS:=S6.drew;refine fq 21 20 lS [] ?_;iterate 4 refine gM ?_
 refine gk (v:=iV ep) 4 rfl lS (λ_ Gb=>(aj rfl rfl (ay Tryz.underlying3 rfl (St.cl 2 Gb rfl xS)))) ?_;iterate 4 refine gM ?_
 refine gk (v:=iV gv) 9 rfl lS (λ_ atH=>(aj rfl rfl (ay Tryz.underlying3 rfl (St.cl 2 atH rfl Aw)))) ?_;refine gk (v:= .agg #[iV ep,iV gv]) 10 rfl lS (λ_ _=>gF) ?_;iterate 4 refine gM ?_
 refine gk (v:= .slice A1 rs.length c1) 15 rfl lS (λ_ ajO=>(aj rfl rfl (ay Tryz.underlying162 rfl (St.cl 2 ajO rfl pz)))) ?_;obtain ⟨b34,o35,rfl⟩:=Rd.addr (St.ord 3 lS rfl) (by omega);obtain ⟨KH,anH⟩:=KG 0 (St.ord 3 lS rfl) (by omega);refine gk 16 rfl lS (λ_ _=>jd 0) ?_;refine gk (v:= .agg #[iV KH.no,iV KH.body]) 17 rfl lS (λ_ atI=>(aj rfl rfl (aA (cs:=fV.cells KH) Tryz.underlying209 rfl E5 rfl (Rd.vQ (St.ord 3 atI rfl) (λ_ _ h=>aZ (enc:=fV.cells) (sz:=2) (λ_=>rfl) anH h))))) ?_;refine gk (v:= .agg #[iV ep,iV gv,iV KH.no,iV KH.body]) 18 rfl lS (λ_ _=>gF) ?_;refine eU (m:=1) (r:=19) (by kernel_rfl) ?_;refine lQ (i:=19) rfl rfl (V:=λb=>pV b 0) (row:= #[iV 0,iV 0,iV 0,iV 0]) (t:=212) lS (wn rfl) rfl rfl (jf rfl (Tryz.zeroValue212 _) rfl) ?_;intro b41 UH qc;refine gM ?_;refine dY (by kernel_rfl) rfl rfl rfl ?_;refine sa 0 qc Ic ?_;intro RQ oH;refine zQ ?_;refine iP ?_;refine zN 8 ?_;refine vv (aj rfl rfl (ay Tryz.underlying162 rfl (St.cl 3 oH rfl pz))) ?_;have hcp:=dn (oH.own 4 rfl);obtain ⟨A46,atJ,atK,atL⟩:=AZ (P:=Tryz.prog) (t:=162) (s:=2) (A:=(aD b34 o35)) (n:=rs.length) (c:=c1) (lo:=some (iV 1)) (hi:=none) (mx:=none) (l:=1) (k:=rs.length) (q:=c1) Tryz.underlying162 E5 (afo 1 rfl (by omega)) (by omega) (Nat.le_refl _) (by omega);refine vv (v:= .slice A46 (rs.length-1) (c1-1)) (jH rfl rfl (iY rfl) mh mh (atJ _)) ?_;have vS:=oH.seal 4 rfl (adP (atK _ _ _ (St.ord 4 oH rfl))) (λa h=>atL a h);refine zN 3 ?_;refine jw 3 vS PZ ?_ (hs:=by exact IB);intro Yr oq;refine zN 3 ?_;have za:=oq.drew;refine fq 13 9 za [5] ?_;iterate 5 refine gM ?_
 refine gk (v:= .slice A2 ls.length c2) 5 rfl (St.del 5 za) (λ_ ZF=>(aj rfl rfl (ay Tryz.underlying163 rfl (St.cl 3 ZF rfl sZ)))) ?_;refine gM ?_;refine eU (m:=5) (r:=7) (by kernel_rfl) ?_;refine lQ (i:=7) rfl rfl (V:=λb=> .slice (aD b 0) 1 1) (row:= #[iV ep,iV gv,iV KH.no,iV KH.body]) (t:=212) za (wn rfl) rfl rfl (aV (vs:=[(0,.agg #[iV ep,iV gv,iV KH.no,iV KH.body])]) rfl ⟨rfl,rfl,trivial⟩ (by kernel_rfl)) ?_;intro b61 Yt wE;refine gM ?_;refine eU (m:=4) (r:=8) (by kernel_rfl) ?_;refine kM (i:=8) rfl rfl (news:=[iV ep,iV gv,iV KH.no,iV KH.body]) (xs':=(ls++[(⟨ep,gv,KH⟩:Ls)]).flatMap Ls.cells) 6 wE (wn rfl) rfl rfl rfl rfl rfl rfl (St.lY (xs:=[iV ep,iV gv,iV KH.no,iV KH.body]) 0 wE rfl rfl rfl) Tryz.underlying163 acC rfl (by decide) (bX rfl) (by simp only [maxLen];omega) (by omega) (jO (enc:=Ls.cells) rfl rfl) ?_;intro A64 c65 UK ay5 ay6 uz;refine gM ?_;refine dY (by kernel_rfl) rfl rfl rfl ?_;refine zN 3 ?_;refine jw 4 uz P5 ?_ (hs:=by exact IC);intro ZG rG;refine zQ ?_;refine iP ?_;refine zN 7 ?_;refine vv (aj rfl rfl (ay Tryz.underlying3 rfl (St.cl 4 rG rfl Aw))) ?_;refine vv (v:=iV (gv+1)) gD ?_;refine zN 3 ?_;refine jw 4 rG lH ?_ (hs:=by exact Ym);intro w72 tT;refine zN 5 ?_;refine vv (aj rfl rfl (aA (cs:=[iV ep,iV gv]) Tryz.underlying51 rfl Vl rfl (St.rg 1 tT rfl (nS (x:=0) (m:=2) rfl)))) ?_;refine zN 3 ?_;refine vv (v:= .agg #[iV 0,iV ep,iV gv,iV KH.body]) gF ?_;refine sa 2 tT dx ?_;intro w74 Bb;refine zN 5 ?_;have Jm:=Bb.aS [3,2,1,0];have Da:=Jm.bH 2 rfl;have hl1:(rs.drop 1).length=rs.length-1:=by simp
 have hl2:(ls++[(⟨ep,gv,KH⟩:Ls)]).length=ls.length+1:=by simp
 rw [amD anH h2];refine ⟨rfl,A46,(c1-1),A64,c65,?_⟩;dsimp only;rw [hl1,hl2];exact Da
section
variable {P:Program} {N:Nat} {l l':Slots} {w w' w0:World} {ops:Array Oper} {o:Oper} {rest:List Oper} {Q:Exit->Act->World->Prop} {d B:Nat} {v p:Value} {fs fs':List Fact} {b m f:Nat} {row row' cs:Array Value} {t ty:TypeId} {x y:Operand}
theorem saq (i:Nat) (S:St B w0 w fs) (hz:(P.info? ty).map (·.size)=some m) (h: ∀ w',St B w0 w' fs'->wL P N ops Q rest l w') (hw:o.guard=none:=by exact rfl) (hd:o.dst=none:=by exact rfl) (ho:o.op= .store ty x y:=by exact rfl)
  (hx:ev l x=some (.pointer (some ⟨b,0,none⟩)):=by exact rfl) (hy:ev l y=some v:=by exact rfl) (hi:fs[i]? =some (.blk b row t):=by exact rfl) (hv:v.cells=cs:=by exact rfl) (hm:cs.size=m:=by exact rfl)
  (h1: ∀ u∈cs.toList,u.oneCell'=true:=by exact JV rfl rfl) (hr:Nat.ble m row.size=true:=by exact rfl) (hs:row.size=cs.size:=by exact rfl) (hf:iJ (.blk b cs t) fs i fs':=by repeat' first | exact iJ.z | apply iJ.s):wL P N ops Q (o::rest) l w:=
 Co i S (wn hw) hd ho hx hy hi hv hz hm h1 (by rw [Nat.zero_add];exact Nat.le_of_ble_eq_true hr) (qU hs) hf.eq h
theorem Yu {C:World->Prop} {n:Nat} {listed listed':Array Bool} (j:Nat) (hi':ops[j]? =some o) (i:Nat) (S:St B w0 w fs) (hz:(P.info? ty).map (·.size)=some m) (h: ∀ w',St B w0 w' fs'->C w'/\wA P N ops Q C n listed' l w') (hl:listed.setIfInBounds j true=listed':=by exact rfl)
  (hw:o.guard=none:=by exact rfl) (hd:o.dst=none:=by exact rfl) (ho:o.op= .store ty x y:=by exact rfl) (hx:ev l x=some (.pointer (some ⟨b,0,none⟩)):=by exact rfl) (hy:ev l y=some v:=by exact rfl) (hi:fs[i]? =some (.blk b row t):=by exact rfl) (hv:v.cells=cs:=by exact rfl)
  (hm:cs.size=m:=by exact rfl) (h1: ∀ u∈cs.toList,u.oneCell'=true:=by exact JV rfl rfl) (hr:Nat.ble m row.size=true:=by exact rfl) (hs:row.size=cs.size:=by exact rfl) (hf:iJ (.blk b cs t) fs i fs':=by repeat' first | exact iJ.z | apply iJ.s):wK P N ops Q C n j listed l w:=
 uo hi' hl i S (wn hw) hd ho hx hy hi hv hz hm h1 (by rw [Nat.zero_add];exact Nat.le_of_ble_eq_true hr) (qU hs) hf.eq h
end
end Go.Proofs.YthhnonpehllibaaGreatDoor
