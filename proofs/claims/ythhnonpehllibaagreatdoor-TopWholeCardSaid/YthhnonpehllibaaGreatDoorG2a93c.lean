import Derived.Test.YthhnonpehllibaaGreatDoorGd6a48
import Derived.Test.YthhnonpehllibaaGreatDoorGe6757
set_option maxRecDepth 100000
set_option maxHeartbeats 8000000
set_option linter.unusedSimpArgs false
set_option linter.unusedVariables false
namespace Go.Proofs.YthhnonpehllibaaGreatDoor
open ChangeShapes WideShapes RowKit
structure fT where
 no:Int
 body:Int
 deriving DecidableEq
structure Ls where
 dZ:Int
 hno:Int
 msg:fT
 deriving DecidableEq
structure jV where
 a:kG
 b:kG
 c:kG
 d:kG
 deriving DecidableEq
structure Qd where
 ep:Int
 nx:Int
 gv:Int
 ready:List fT
 bO:List Ls
 ws:jV
 deriving DecidableEq
def fT.cells (m:fT):List Value:=[iV m.no,iV m.body]
def Ls.cells (x:Ls):List Value:=[iV x.dZ,iV x.hno,iV x.msg.no,iV x.msg.body]
def jV.cells (x:jV):List Value:=x.a.cells++(x.b.cells++(x.c.cells++x.d.cells))
def jV.at (x:jV) (p:Nat):kG:=if p=0 then x.a else if p=1 then x.b else if p=2 then x.c else x.d
def jV.put (x:jV) (p:Nat) (y:kG):jV:=if p=0 then { x with a:=y } else if p=1 then { x with b:=y } else if p=2 then { x with c:=y } else { x with d:=y }
theorem jV.len (x:jV):x.cells.length=36:=rfl
theorem kG.len (x:kG):x.cells.length=9:=rfl
def cZ (e n g:Int) (r l:Value) (W:jV):Array Value:=(iV e::iV n::iV g::r::l::W.cells).toArray
def jr:jV:=⟨Aa,Aa,Aa,Aa⟩
section
variable {e n g:Int} {r l:Value} {W:jV}
theorem xC:(cZ e n g r l W).size=41:=rfl
theorem xP:(cZ e n g r l W)[0]? =some (iV e):=rfl
theorem Aj:(cZ e n g r l W)[1]? =some (iV n):=rfl
theorem Ak:(cZ e n g r l W)[2]? =some (iV g):=rfl
theorem oW:(cZ e n g r l W)[3]? =some r:=rfl
theorem sN:(cZ e n g r l W)[4]? =some l:=rfl
theorem ah9: ∀ (j:Nat) (u:Value),W.cells[j]? =some u->(cZ e n g r l W)[5+j]? =some u:=nP (m:=36) rfl
theorem aia: ∀ (j:Nat) (u:Value),(W.at 0).cells[j]? =some u->(cZ e n g r l W)[5+j]? =some u:=nP (m:=9) rfl
theorem aib: ∀ (j:Nat) (u:Value),(W.at 1).cells[j]? =some u->(cZ e n g r l W)[14+j]? =some u:=nP (m:=9) rfl
theorem aic: ∀ (j:Nat) (u:Value),(W.at 2).cells[j]? =some u->(cZ e n g r l W)[23+j]? =some u:=nP (m:=9) rfl
theorem aie: ∀ (j:Nat) (u:Value),(W.at 3).cells[j]? =some u->(cZ e n g r l W)[32+j]? =some u:=nP (m:=9) rfl
theorem aif {z:Int}:cK (cZ e n g r l W) 0 [iV z]=cZ z n g r l W:=rfl
theorem aii {z:Int}:cK (cZ e n g r l W) 1 [iV z]=cZ e z g r l W:=rfl
theorem X9 {z:Int}:cK (cZ e n g r l W) 2 [iV z]=cZ e n z r l W:=rfl
theorem Il {z:Value}:cK (cZ e n g r l W) 3 [z]=cZ e n g z l W:=rfl
theorem Im {z:Value}:cK (cZ e n g r l W) 4 [z]=cZ e n g r z W:=rfl
theorem aij {x:kG}:cK (cZ e n g r l W) 5 x.cells=cZ e n g r l (W.put 0 x):=by
 apply Array.toList_inj.1;rw [gU _ _ _ (by rw [xC,kG.len];omega)];rfl
theorem aik {x:kG}:cK (cZ e n g r l W) 14 x.cells=cZ e n g r l (W.put 1 x):=by
 apply Array.toList_inj.1;rw [gU _ _ _ (by rw [xC,kG.len];omega)];rfl
theorem ail {x:kG}:cK (cZ e n g r l W) 23 x.cells=cZ e n g r l (W.put 2 x):=by
 apply Array.toList_inj.1;rw [gU _ _ _ (by rw [xC,kG.len];omega)];rfl
theorem ain {x:kG}:cK (cZ e n g r l W) 32 x.cells=cZ e n g r l (W.put 3 x):=by
 apply Array.toList_inj.1;rw [gU _ _ _ (by rw [xC,kG.len];omega)];rfl
theorem Io (x:kG): ∀ u∈x.cells,u.oneCell'=true:=bX rfl
theorem aeb (x:jV): ∀ u∈x.cells,u.oneCell'=true:=bX rfl
theorem JF (hr:r.oneCell'=true) (hl:l.oneCell'=true): ∀ u∈(cZ e n g r l W).toList,u.oneCell'=true:=by
 intro u hu;simp only [cZ,List.mem_cons] at hu
 rcases hu with rfl | rfl | rfl | rfl | rfl | hu
 ·rfl
 ·rfl
 ·rfl
 ·exact hr
 ·exact hl
 exact aeb W u hu
end
def Ve (w:World) (k:Int) (e:Ending) (w':World):Prop:=e= .returned (iV k)/\Below w.heap.size w w'
def ER (w:World) (b:Bool) (e:Ending) (w':World):Prop:=e= .returned (.bool b)/\Below w.heap.size w w'
def qU (nx:Int) (m:fT):Bool:=decide (0<=m.no/\m.no<nx/\0<=m.body/\m.body<=1000000)
theorem wW {nx:Int} {m:fT} (h:qU nx m=true):0<=m.no/\m.no<nx/\0<=m.body/\m.body<=1000000:=of_decide_eq_true h
def jL (nx:Int):Int->List fT->Bool
 | _,[]=>true
 | p,m::r=>(qU nx m&&decide (p<m.no))&&jL nx m.no r
def K6 (ep nx gv p:Int) (x:Ls):Bool:=qU nx x.msg&&decide (x.dZ=ep/\p<x.hno/\x.hno<gv)
def kT (ep nx gv:Int):Int->List Ls->Bool
 | _,[]=>true
 | p,x::r=>K6 ep nx gv p x&&kT ep nx gv x.hno r
def nE (rs:List fT) (ls:List Ls):List Int:=rs.map (·.no)++ls.map (·.msg.no)
def QE (ep nx gv:Int) (rs:List fT) (ls:List Ls):Prop:=0<=ep/\ep<=1048576/\0<=nx/\nx<=1073741824/\0<=gv/\gv<=1073741824/\rs.length+ls.length<=500
def zi (W:jV):Prop:= ∀ j,j<4->dG (W.at j)=0
open Classical in
noncomputable def fP (ep nx gv:Int) (rs:List fT) (ls:List Ls) (W:jV):Int:=
 if ¬ QE ep nx gv rs ls then 6 else if ¬ zi W then 6 else if jL nx (-1) rs=true/\kT ep nx gv (-1) ls=true/\(nE rs ls).Nodup then 0 else 6
section
variable {ep nx gv p:Int} {rs:List fT} {ls:List Ls} {W:jV}
theorem BN (h: ¬ (0<=ep/\ep<=1048576/\0<=nx/\nx<=1073741824/\0<=gv/\gv<=1073741824/\rs.length+ls.length<=500)):fP ep nx gv rs ls W=6:=if_pos h
theorem zk (h: ¬ (zi W/\jL nx (-1) rs=true/\kT ep nx gv (-1) ls=true/\(nE rs ls).Nodup)):fP ep nx gv rs ls W=6:=by
 unfold fP
 split
 ·rfl
 split
 ·rfl
 rename_i h1 h2
 rw [if_neg (λh3=>h ⟨Classical.not_not.1 h2,h3⟩)]
theorem aof {j:Nat} (hj:j<4) (h:dG (W.at j)≠0):fP ep nx gv rs ls W=6:=zk λh1=>h (h1.1 j hj)
theorem atX (h0:QE ep nx gv rs ls) (h1:zi W) (h2:jL nx (-1) rs=true) (h3:kT ep nx gv (-1) ls=true) (h4:(nE rs ls).Nodup):fP ep nx gv rs ls W=0:=by
 unfold fP;rw [if_neg (λh=>h h0),if_neg (λh=>h h1),if_pos ⟨h2,h3,h4⟩]
theorem JG {k:Nat} {m:fT} (h:rs[k]? =some m):jL nx p (rs.drop k)=((qU nx m&&decide (p<m.no))&&jL nx m.no (rs.drop (k+1))):=by
 obtain ⟨hk,hm⟩:=List.getElem?_eq_some_iff.1 h;rw [List.drop_eq_getElem_cons hk,hm];rfl
theorem Dp {k:Nat} {x:Ls} (h:ls[k]? =some x):kT ep nx gv p (ls.drop k)=(K6 ep nx gv p x&&kT ep nx gv x.hno (ls.drop (k+1))):=by
 obtain ⟨hk,hm⟩:=List.getElem?_eq_some_iff.1 h;rw [List.drop_eq_getElem_cons hk,hm];rfl
theorem JH {α β:Type} {f:α->β} {l:List α} {k:Nat} {x:α} (h:l[k]? =some x):(l.take k).map f++[f x]=(l.take (k+1)).map f:=by
 rw [List.take_add_one,h];simp
theorem aio (x:kG):dG x=0\/dG x=6:=by unfold dG;split<;>simp
end
theorem Tj (W:jV) (w:World):(Instr.index 167 (.agg W.cells.toArray) (iV 0)).run Tryz.prog w= .ok (.agg (W.at 0).cells.toArray) w:=by kernel_rfl
theorem Tk (W:jV) (w:World):(Instr.index 167 (.agg W.cells.toArray) (iV 1)).run Tryz.prog w= .ok (.agg (W.at 1).cells.toArray) w:=by kernel_rfl
theorem Tm (W:jV) (w:World):(Instr.index 167 (.agg W.cells.toArray) (iV 2)).run Tryz.prog w= .ok (.agg (W.at 2).cells.toArray) w:=by kernel_rfl
theorem Tn (W:jV) (w:World):(Instr.index 167 (.agg W.cells.toArray) (iV 3)).run Tryz.prog w= .ok (.agg (W.at 3).cells.toArray) w:=by kernel_rfl
theorem WA (W:jV) (k:Nat) (hk:k<4) (w:World):(Instr.index 167 (.agg W.cells.toArray) (iV k)).run Tryz.prog w= .ok (.agg (W.at k).cells.toArray) w:=by
 have h:k=0\/k=1\/k=2\/k=3:=by omega
 rcases h with rfl | rfl | rfl | rfl
 ·exact Tj W w
 ·exact Tk W w
 ·exact Tm W w
 exact Tn W w
theorem aip {e n g:Int} {r l:Value} {W:jV} {k:Nat} (hk:k<4): ∀ (j:Nat) (u:Value),(W.at k).cells[j]? =some u->(cZ e n g r l W)[5+k*9+j]? =some u:=by
 have h:k=0\/k=1\/k=2\/k=3:=by omega
 rcases h with rfl | rfl | rfl | rfl
 ·exact aia
 ·exact aib
 ·exact aic
 exact aie
theorem jM {α:Type} {enc:α->List Value} {l l':List α} {x:α} {cs:List Value} (h:l++[x]=l') (he:enc x=cs):l.flatMap enc++cs=l'.flatMap enc:=by
 subst h;subst he;simp
structure iZ where
 code:Int
 dZ:Int
 hno:Int
 body:Int
 deriving DecidableEq
def eH:iZ:=⟨0,0,0,0⟩
def rU (k:Int):iZ:=⟨k,0,0,0⟩
def iZ.cells (a:iZ):List Value:=[iV a.code,iV a.dZ,iV a.hno,iV a.body]
def iZ.val (a:iZ):Value:= .agg #[iV a.code,iV a.dZ,iV a.hno,iV a.body]
def Cb (Q:Qd) (k:Nat) (id bd:Int):Qd×iZ×Bool:=
 if (iT (Q.ws.at k) id).2.2≠0 then (Q,rU (iT (Q.ws.at k) id).2.2,false)
 else if (iT (Q.ws.at k) id).2.1=false then (Q,eH,false)
 else if Q.ready.length+Q.bO.length=500\/Q.nx=1073741824 then (Q,rU 14,false)
 else (⟨Q.ep,Q.nx+1,Q.gv,Q.ready++[⟨Q.nx,bd⟩],Q.bO,Q.ws.put k (iT (Q.ws.at k) id).1⟩,eH,true)
def Ip (Q:Qd):Qd×iZ×Bool:=match Q.ready with
 | []=>(Q,rU 10,false)
 | m::rest=>if Q.gv=1073741824 then (Q,rU 14,false) else (⟨Q.ep,Q.nx,Q.gv+1,rest,Q.bO++[⟨Q.ep,Q.gv,m⟩],Q.ws⟩,⟨0,Q.ep,Q.gv,m.body⟩,true)
def FV (Q:Qd) (he hn:Int):Qd×iZ×Bool:=
 if he≠Q.ep then (Q,rU 11,false)
 else if (Q.bO.filter λx=>decide (x.hno≠hn)).length=Q.bO.length then (Q,rU 7,false)
 else (⟨Q.ep,Q.nx,Q.gv,Q.ready,Q.bO.filter λx=>decide (x.hno≠hn),Q.ws⟩,eH,true)
def jN (m:fT):List fT->List fT
 | []=>[m]
 | x::l=>if m.no<x.no then m::x::l else x::jN m l
def K7 (Q:Qd):Qd×iZ×Bool:=
 if Q.ep=1048576 then (Q,rU 14,false)
 else (⟨Q.ep+1,Q.nx,0,Q.bO.foldl (λl x=>jN x.msg l) Q.ready,[],Q.ws⟩,eH,true)
section
variable {ep nx gv bd id he hn:Int} {rs:List fT} {ls:List Ls} {W:jV} {k:Nat}
theorem aiq (h: ¬ (iT (W.at k) id).2.2=0):Cb ⟨ep,nx,gv,rs,ls,W⟩ k id bd=(⟨ep,nx,gv,rs,ls,W⟩,rU (iT (W.at k) id).2.2,false):=if_pos h
theorem air (h:(iT (W.at k) id).2.2=0) (h1:(iT (W.at k) id).2.1=false):Cb ⟨ep,nx,gv,rs,ls,W⟩ k id bd=(⟨ep,nx,gv,rs,ls,W⟩,eH,false):=by
 unfold Cb;rw [if_neg (λh2=>h2 h),if_pos h1]
theorem Rq (h:(iT (W.at k) id).2.2=0) (h1:(iT (W.at k) id).2.1=true) (h2:rs.length+ls.length=500\/nx=1073741824):Cb ⟨ep,nx,gv,rs,ls,W⟩ k id bd=(⟨ep,nx,gv,rs,ls,W⟩,rU 14,false):=by
 unfold Cb;rw [if_neg (λh2=>h2 h),if_neg (λh3=>by rw [h1] at h3;cases h3),if_pos h2]
theorem aog (h:(iT (W.at k) id).2.2=0) (h1:(iT (W.at k) id).2.1=true) (h2: ¬ (rs.length+ls.length=500\/nx=1073741824)):Cb ⟨ep,nx,gv,rs,ls,W⟩ k id bd=(⟨ep,nx+1,gv,rs++[⟨nx,bd⟩],ls,W.put k (iT (W.at k) id).1⟩,eH,true):=by
 unfold Cb;rw [if_neg (λh2=>h2 h),if_neg (λh3=>by rw [h1] at h3;cases h3),if_neg h2]
theorem aec (h:rs.length=0):Ip ⟨ep,nx,gv,rs,ls,W⟩=(⟨ep,nx,gv,rs,ls,W⟩,rU 10,false):=by
 cases rs with
 | nil=>rfl
 | cons m r=>simp at h
theorem aed (h: ¬ rs.length=0) (h1:gv=1073741824):Ip ⟨ep,nx,gv,rs,ls,W⟩=(⟨ep,nx,gv,rs,ls,W⟩,rU 14,false):=by
 cases rs with
 | nil=>simp at h
 | cons m r=>exact if_pos h1
theorem aoh {m:fT} (h:rs[0]? =some m) (h1: ¬ gv=1073741824):Ip ⟨ep,nx,gv,rs,ls,W⟩=(⟨ep,nx,gv+1,rs.drop 1,ls++[⟨ep,gv,m⟩],W⟩,⟨0,ep,gv,m.body⟩,true):=by
 cases rs with
 | nil=>simp at h
 | cons m r=>
  simp at h;subst h;exact if_neg h1
theorem Zf (h: ¬ he=ep):FV ⟨ep,nx,gv,rs,ls,W⟩ he hn=(⟨ep,nx,gv,rs,ls,W⟩,rU 11,false):=if_pos h
theorem aee (h:he=ep) (h1:(ls.filter λx=>decide (x.hno≠hn)).length=ls.length):FV ⟨ep,nx,gv,rs,ls,W⟩ he hn=(⟨ep,nx,gv,rs,ls,W⟩,rU 7,false):=by
 unfold FV;rw [if_neg (λh2=>h2 h),if_pos h1]
theorem aoi (h:he=ep) (h1: ¬ (ls.filter λx=>decide (x.hno≠hn)).length=ls.length):FV ⟨ep,nx,gv,rs,ls,W⟩ he hn=(⟨ep,nx,gv,rs,ls.filter λx=>decide (x.hno≠hn),W⟩,eH,true):=by
 unfold FV;rw [if_neg (λh2=>h2 h),if_neg h1]
theorem aef (h:ep=1048576):K7 ⟨ep,nx,gv,rs,ls,W⟩=(⟨ep,nx,gv,rs,ls,W⟩,rU 14,false):=if_pos h
theorem aoj (h: ¬ ep=1048576):K7 ⟨ep,nx,gv,rs,ls,W⟩=(⟨ep+1,nx,0,ls.foldl (λl x=>jN x.msg l) rs,[],W⟩,eH,true):=if_neg h
end
theorem ais {e n g:Int} {r l:Value} {W:jV} {x:kG} {k:Nat} (hk:k<4):cK (cZ e n g r l W) (5+k*9) x.cells=cZ e n g r l (W.put k x):=by
 match k,hk with
 | 0,_=>exact aij
 | 1,_=>exact aik
 | 2,_=>exact ail
 | 3,_=>exact ain
def D8 (B:Nat) (w0:World) (g:Nat) (fs:List Fact) (r:Qd×iZ×Bool) (e:Ending) (w':World):Prop:=
 e= .returned (.tuple #[r.2.1.val,.bool r.2.2])/\ ∃ A1 c1 A2 c2,St B w0 w' (.blk g (cZ r.1.ep r.1.nx r.1.gv (.slice A1 r.1.ready.length c1) (.slice A2 r.1.bO.length c2) r.1.ws) 206:: .cu 2 A1 r.1.ready.length (r.1.ready.flatMap fT.cells):: .cu 4 A2 r.1.bO.length (r.1.bO.flatMap Ls.cells)::fs)
instance:zf fT where
 size:=2
 ints m:=[m.no,m.body]
 of xs:=⟨xs.getD 0 0,xs.getD 1 0⟩
 pos:=by decide
 len _:=rfl
 inv xs h:=by
  match xs,h with
  | [a,b],_=>rfl
instance:zf Ls where
 size:=4
 ints m:=[m.dZ,m.hno,m.msg.no,m.msg.body]
 of xs:=⟨xs.getD 0 0,xs.getD 1 0,⟨xs.getD 2 0,xs.getD 3 0⟩⟩
 pos:=by decide
 len _:=rfl
 inv xs h:=by
  match xs,h with
  | [a,b,c,d],_=>rfl
theorem aeg (l:List fT): ∀ u∈l.flatMap fT.cells,u.oneCell'=true:=EG l
theorem Ya (l:List Ls): ∀ u∈l.flatMap Ls.cells,u.oneCell'=true:=EG l
section
variable {P:Program} {w:World} {t e:TypeId} {xo yo:Operand}
theorem vo {A:Option Addr} {n c:Nat} (h:P.underlying t=some (.slice e)):(do eqGuard .eql t xo yo (.slice A n c) (.slice none 0 0);binOp .eql t (.slice A n c) (.slice none 0 0):Sem Value).run P w= .ok (.bool A.isNone) w:=by
 rw [Sem.run_bind,show (eqGuard .eql t xo yo (.slice A n c) (.slice none 0 0)).run P w= .ok () w from rfl];exact Lib.run_eql_slice_nil w t e A n c 0 0 h
end
theorem Iq {w:World} {B s n:Nat} {xs:List Value} (h:Rd w B s none n xs):n=0/\xs=[]:=by
 have h1:n=0:=by
  rcases Nat.eq_zero_or_pos n with h0 | h0
  ·exact h0
  obtain ⟨b,off,e,_⟩:=h.2 h0
  cases e
 subst h1;exact ⟨rfl,List.eq_nil_of_length_eq_zero (by have:=h.1;omega)⟩
theorem PL (A:Option Addr) (n c:Nat) (l:List Value) (w:World) (h:Rd w w.heap.size 2 A n l) (hone: ∀ u∈l,u.oneCell'=true) (hc:n*16<=reachBytes):
    Calls Tryz.prog 114 #[.slice A n c] w (ji w 209 2 n l):=by
 unfold reachBytes at hc;have S:=(St.start w).bV h;refine gB 8 Tryz.func114 ?_;refine cw [0] ?_;refine zN 9 ?_
 cases A with
 | none=>
  obtain ⟨rfl,rfl⟩:=Iq h;refine vv (v:= .bool true) (aK rfl rfl rfl (vo Tryz.underlying162)) ?_;refine zN 11 ?_;exact ji.of (Below.refl _ _) (jd _ _ _ _)
 | some a=>
  refine vv (v:= .bool false) (aK rfl rfl rfl (vo Tryz.underlying162)) ?_;refine zN 7 ?_;refine qD (V:=λb=> .slice (aD b 0) 0 0) (row:= #[]) (t:=209) (n:=0) (s:=2) (xs:=[]) S (wn rfl) rfl rfl (aU (vs:=[]) rfl trivial (by kernel_rfl)) (by simp) (Nat.zero_le _) rfl ?_;intro b1 w2 S3;refine zQ ?_;refine dY (news:=l) (xs':=l) 0 S3 (wn rfl) rfl rfl rfl rfl rfl rfl (St.rd 1 S3 rfl) Tryz.underlying162 Uj rfl (by decide) hone (by simp only [maxLen];omega) (by omega) rfl ?_;intro A4 c5 w6 hc8 qF S7;refine zN 5 ?_;have oC:=S7.aR [1];have ho:=oC.own 0 rfl;simp only [Nat.zero_add] at ho⊢;exact ji.of oC.low ho
theorem PN (A:Option Addr) (n c:Nat) (l:List Value) (w:World) (h:Rd w w.heap.size 4 A n l) (hone: ∀ u∈l,u.oneCell'=true) (hc:n*32<=reachBytes):
    Calls Tryz.prog 115 #[.slice A n c] w (ji w 212 4 n l):=by
 unfold reachBytes at hc;have S:=(St.start w).bV h;refine gB 8 Tryz.func115 ?_;refine cw [0] ?_;refine zN 9 ?_
 cases A with
 | none=>
  obtain ⟨rfl,rfl⟩:=Iq h;refine vv (v:= .bool true) (aK rfl rfl rfl (vo Tryz.underlying163)) ?_;refine zN 11 ?_;exact ji.of (Below.refl _ _) (jd _ _ _ _)
 | some a=>
  refine vv (v:= .bool false) (aK rfl rfl rfl (vo Tryz.underlying163)) ?_;refine zN 7 ?_;refine qD (V:=λb=> .slice (aD b 0) 0 0) (row:= #[]) (t:=212) (n:=0) (s:=4) (xs:=[]) S (wn rfl) rfl rfl (aU (vs:=[]) rfl trivial (by kernel_rfl)) (by simp) (Nat.zero_le _) rfl ?_;intro b1 w2 S3;refine zQ ?_;refine dY (news:=l) (xs':=l) 0 S3 (wn rfl) rfl rfl rfl rfl rfl rfl (St.rd 1 S3 rfl) Tryz.underlying163 acA rfl (by decide) hone (by simp only [maxLen];omega) (by omega) rfl ?_;intro A4 c5 w6 hc8 qF S7;refine zN 5 ?_;have oC:=S7.aR [1];have ho:=oC.own 0 rfl;simp only [Nat.zero_add] at ho⊢;exact ji.of oC.low ho
theorem Cz (e nx g:Int) (r l:Value) (W:jV) (m:fT) (w:World):
    Calls Tryz.prog 121 #[.agg (cZ e nx g (r) (l) W),.agg #[iV m.no,iV m.body]] w (ER w (qU nx m)):=by
 have S:=St.start w;refine gB 25 Tryz.func121 ?_;refine cw [0,1] ?_;refine zN 2 ?_;refine iK S ?_;intro b1 w2 S3;refine iK S3 ?_;intro b4 w5 S6;refine zN 7 ?_;by_cases h7:0<=m.no
 ·refine zN 5 ?_;refine vg (aj rfl rfl (ay Tryz.underlying3 rfl (St.cl 1 S6 rfl Aj))) ?_;by_cases h8:m.no<nx
  ·refine zN 5 ?_;by_cases h9:0<=m.body
   ·refine zN 5 ?_;by_cases h10:m.body<=1000000
    ·refine zN 7 ?_;refine ⟨?_,S6.low⟩;rw [show qU nx m=true from decide_eq_true ⟨‹_›,‹_›,‹_›,‹_›⟩];rfl
    refine zN 7 ?_;refine ⟨?_,S6.low⟩;rw [show qU nx m=false from decide_eq_false (λh=>absurd h.2.2.2 ‹_›)];rfl
   refine zN 12 ?_;refine ⟨?_,S6.low⟩;rw [show qU nx m=false from decide_eq_false (λh=>absurd h.2.2.1 ‹_›)];rfl
  refine zN 17 ?_;refine ⟨?_,S6.low⟩;rw [show qU nx m=false from decide_eq_false (λh=>absurd h.2.1 ‹_›)];rfl
 refine zN 23 ?_;refine ⟨?_,S6.low⟩;rw [show qU nx m=false from decide_eq_false (λh=>absurd h.1 ‹_›)];rfl
theorem Ml {B g k c1 c2:Nat} {w0 w:World} {fs:List Fact} {A1 A2:Option Addr} {rs:List fT} {ls:List Ls} {W:jV} {ep nx gv kd id bd he hn:Int} (S:St B w0 w (.blk g (cZ ep nx gv (.slice A1 rs.length c1) (.slice A2 ls.length c2) W) 206:: .own 209 2 (.slice A1 rs.length c1) rs.length ((rs).flatMap fT.cells):: .own 212 4 (.slice A2 ls.length c2) ls.length ((ls).flatMap Ls.cells)::fs)) (hk:k<4) (hlen:rs.length+ls.length<=500) (hnx:0<=nx/\nx<=1073741824) (hgv:0<=gv/\gv<=1073741824) (dZ:0<=ep/\ep<=1048576):
    Calls Tryz.prog 116 #[pV g 0,.agg #[iV kd,iV ((k:Nat):Int),iV id,iV bd,iV he,iV hn]] w (D8 B w0 g fs (Cb ⟨ep,nx,gv,rs,ls,W⟩ k id bd)):=by
 refine gB 94 Tryz.func116 ?_;refine cw [0,1] ?_;refine zN 2 ?_;refine iK S ?_;intro b1 w2 S3;refine fF S3 sM ?_;intro b4 w5 S6;refine zN 3 ?_;refine mq (X:=Nat) (λxv=>[(0,pV g 0),(3,pV b1 0),(4,pV b4 0),(5,.bool false),(6,pV xv 0),(7,.bool ((iT (W.at k) id).2.1)),(8,iV ((iT (W.at k) id).2.2))]) (λxv wr=>St B w0 wr ((.blk xv (((iT (W.at k) id).1.cells).toArray) 166)::(.blk b4 #[iV 0,iV 0,iV 0,iV 0] 101)::(.blk b1 #[iV kd,iV ((k:Nat):Int),iV id,iV bd,iV he,iV hn] 53)::(.blk g (cZ ep nx gv (.slice A1 rs.length c1) (.slice A2 ls.length c2) W) 206)::(.own 209 2 (.slice A1 rs.length c1) rs.length ((rs).flatMap fT.cells))::(.own 212 4 (.slice A2 ls.length c2) ls.length ((ls).flatMap Ls.cells))::fs)) ?_ ?_
 ·have S7:=S6.drew;refine aG 19 S7 [] ?_;refine aJ 6 ?_;refine ak (v:=pV g (5+k*9)) 6 rfl S7 (λ_ _=>(aT rfl rfl rfl (eZ k Tryz.underlying167 EL rfl hk))) ?_;refine ak (v:= .agg (((W.at k).cells).toArray)) 7 rfl S7 (λ_ ald=>(aj rfl rfl (aA (cs:=(W.at k).cells) Tryz.underlying166 rfl EL rfl (St.rg 2 ald rfl (aip hk))))) ?_;refine aJ 2 ?_;refine gZ (n:=8) (r:=10) (s:=15) (by kernel_rfl) ?_ ?_
  ·refine iY 10 rfl apL (GA (W.at k) id _) ?_;rintro _ Ng ⟨rfl,ale⟩;refine ⟨_,rfl,?_⟩;have lX:=S7.on ale;refine aJ 5 ?_;refine aW 15 ?_;refine kS 15 rfl lX alc ?_;intro Rs Nh tF;refine bZ ?_;refine aW 16 ?_;refine Zd 16 rfl 0 tF EL ?_ (h1:=Io _);intro Yb sD;refine aJ 4 ?_;refine dD Rs ?_ ⟨rfl,rfl,rfl,rfl,rfl,rfl,rfl,trivial⟩;exact sD
  refine kS 15 rfl S7 alc ?_;intro b32 Zg qG;refine bZ ?_;refine aW 10 ?_;refine iY 10 rfl apL (GA (W.at k) id _) ?_;rintro _ Yc ⟨rfl,alf⟩;refine ⟨_,rfl,?_⟩;have nT:=qG.on alf;refine aJ 5 ?_;refine aW 16 ?_;refine Zd 16 rfl 0 nT EL ?_ (h1:=Io _);intro Uq p9;refine aJ 4 ?_;refine dD b32 ?_ ⟨rfl,rfl,rfl,rfl,rfl,rfl,rfl,trivial⟩;exact p9
 rintro b46 w47 wo
 try dsimp only at wo
 refine bC (l':=[(0,pV g 0),(3,pV b1 0),(4,pV b4 0),(5,.bool false),(6,pV b46 0),(7,.bool ((iT (W.at k) id).2.1)),(8,iV ((iT (W.at k) id).2.2))]) ⟨rfl,rfl,rfl,rfl,rfl,rfl,rfl,trivial⟩ (aQ (DY (aQ (aC (vm ?_)))));by_cases h1:(iT (W.at k) id).2.2=0
 ·refine zN 8 ?_
  cases h2:(iT (W.at k) id).2.1
  ·refine zN 8 ?_;refine sa 1 wo dw ?_;intro Zh vO;refine zN 7 ?_;have tZ:=vO.aR [2,1,0];have oZ:=tZ.bH 1 rfl;have yR:=oZ.bH 2 rfl;rw [air h1 h2];refine ⟨rfl,A1,c1,A2,c2,?_⟩;dsimp only;exact yR
  refine zN 6 ?_;refine fu wo mixed (by kernel_rfl) ?_;refine zN 4 ?_;refine uv (v:= .slice A1 rs.length c1) (λ_ axV=>(aj rfl rfl (ay Tryz.underlying162 rfl (St.cl 3 axV rfl oW)))) ?_;refine zN 5 ?_;refine uv (v:= .slice A2 ls.length c2) (λ_ Zi=>(aj rfl rfl (ay Tryz.underlying163 rfl (St.cl 3 Zi rfl sN)))) ?_;refine zQ ?_;refine uv (v:=iV ((rs.length+ls.length:Nat):Int)) (λ_ _=>gN) ?_;by_cases h3:rs.length+ls.length=500
  ·refine zN 10 ?_;refine eO λw71 ES=>?_;refine zN 4 ?_;refine vv (v:= .agg #[iV 14,iV 0,iV 0,iV 0]) gD ?_;refine sa 1 ES dw ?_;intro w73 GV;refine zN 7 ?_;have AL:=GV.aR [2,1,0];have Jb:=AL.bH 1 rfl;have CB:=Jb.bH 2 rfl;rw [Rq h1 h2 (.inl h3)];refine ⟨rfl,A1,c1,A2,c2,?_⟩;dsimp only;exact CB
  refine zN 6 ?_;refine ug (v:=iV nx) (λ_ axW=>(aj rfl rfl (ay Tryz.underlying3 rfl (St.cl 3 axW rfl Aj)))) ?_;by_cases h4:nx=1073741824
  ·refine zN 3 ?_;refine eO λw88 Jc=>?_;refine zN 4 ?_;refine vv (v:= .agg #[iV 14,iV 0,iV 0,iV 0]) gD ?_;refine sa 1 Jc dw ?_;intro w90 Ma;refine zN 7 ?_;have yS:=Ma.aR [2,1,0];have CF:=yS.bH 1 rfl;have ET:=CF.bH 2 rfl;rw [Rq h1 h2 (.inr h4)];refine ⟨rfl,A1,c1,A2,c2,?_⟩;dsimp only;exact ET
  refine zN 3 ?_;refine eO λw98 Ur=>?_;refine zN 6 ?_;have rV:=Ur.drew;refine aG 9 rV [3] ?_;refine aJ 7 ?_;refine ak (v:=pV g (5+k*9)) 7 rfl (St.del 3 rV) (λ_ _=>(aT rfl rfl rfl (eZ k Tryz.underlying167 EL rfl hk))) ?_;refine aW 8 ?_;refine tT (i:=8) rfl rfl (cs:=((iT (W.at k) id).1.cells).toArray) (row':=cZ ep nx gv (.slice A1 rs.length c1) (.slice A2 ls.length c2) (W.put k (iT (W.at k) id).1)) (fs':=(.blk b46 (((iT (W.at k) id).1.cells).toArray) 166)::(.blk b4 #[iV 0,iV 0,iV 0,iV 0] 101)::(.blk b1 #[iV kd,iV ((k:Nat):Int),iV id,iV bd,iV he,iV hn] 53)::(.blk g (cZ ep nx gv (.slice A1 rs.length c1) (.slice A2 ls.length c2) (W.put k (iT (W.at k) id).1)) 206)::(.own 209 2 (.slice A1 rs.length c1) rs.length ((rs).flatMap fT.cells))::(.own 212 4 (.slice A2 ls.length c2) ls.length ((ls).flatMap Ls.cells))::fs) 3 rV (wn rfl) rfl rfl rfl rfl rfl rfl EL rfl (Io _) (by rw [xC];omega) (ais hk) rfl ?_;intro Zj pJ;refine aJ 2 ?_;refine zN 2 ?_;have AO:=pJ.drew;refine fC 20 16 AO [4] ?_;iterate 5 refine gM ?_
  refine gk (v:= .slice A1 rs.length c1) 5 rfl (St.del 4 AO) (λ_ atY=>(aj rfl rfl (ay Tryz.underlying162 rfl (St.cl 3 atY rfl oW)))) ?_;iterate 4 refine gM ?_
  refine gk (v:=iV nx) 10 rfl (St.del 4 AO) (λ_ atZ=>(aj rfl rfl (ay Tryz.underlying3 rfl (St.cl 3 atZ rfl Aj)))) ?_;iterate 2 refine gM ?_
  refine gk (v:= .agg #[iV nx,iV bd]) 13 rfl (St.del 4 AO) (λ_ _=>gD) ?_;refine eP (m:=5) (r:=14) (by kernel_rfl) ?_;refine lM (i:=14) rfl rfl (V:=λb=> .slice (aD b 0) 1 1) (row:= #[iV nx,iV bd]) (t:=209) AO (wn rfl) rfl rfl (aU (vs:=[(0,.agg #[iV nx,iV bd])]) rfl ⟨rfl,rfl,trivial⟩ (by kernel_rfl)) ?_;intro aGM Zk xZ;refine gM ?_;refine eP (m:=4) (r:=15) (by kernel_rfl) ?_;refine kK (i:=15) rfl rfl (news:=[iV nx,iV bd]) (xs':=(rs++[(⟨nx,bd⟩:fT)]).flatMap fT.cells) 5 xZ (wn rfl) rfl rfl rfl rfl rfl rfl (St.lV (xs:=[iV nx,iV bd]) 0 xZ rfl rfl rfl) Tryz.underlying162 Uj rfl (by decide) (bX rfl) (by simp only [maxLen];omega) (by omega) (jM (enc:=fT.cells) rfl rfl) ?_;intro axX c130 afV aDH aDI x9;refine gM ?_;refine eD (by kernel_rfl) rfl rfl rfl ?_;refine zN 3 ?_;refine jq 4 x9 PE ?_ (hs:=by exact Il);intro apW AP;refine zQ ?_;refine iU ?_;refine zN 7 ?_;refine vv (aj rfl rfl (ay Tryz.underlying3 rfl (St.cl 4 AP rfl Aj))) ?_;refine vv (v:=iV (nx+1)) gN ?_;refine zN 3 ?_;refine jq 4 AP mZ ?_ (hs:=by exact aii);intro apX D9;refine zN 5 ?_;refine sa 2 D9 dw ?_;intro axY yc;refine zN 5 ?_;have alg:=yc.aR [3,2,1,0];have Ir:=alg.bH 1 rfl;have K8:=Ir.bH 2 rfl;rw [aog h1 h2 (λh=>h.elim h3 h4)];have hln:=(by simp:(rs++[(⟨nx,bd⟩:fT)]).length=rs.length+1);refine ⟨rfl,axX,c130,A2,c2,?_⟩;dsimp only;rw [hln];exact K8
 refine zN 8 ?_;refine vv (v:= .agg #[iV ((iT (W.at k) id).2.2),iV 0,iV 0,iV 0]) gD ?_;refine sa 1 wo dw ?_;intro afW K9;refine zN 7 ?_;have QF:=K9.aR [2,1,0];have QG:=QF.bH 1 rfl;have Cc:=QG.bH 2 rfl;rw [aiq h1];refine ⟨rfl,A1,c1,A2,c2,?_⟩;dsimp only;exact Cc
theorem dx {w:World} {base:Nat} {e:TypeId} {size:Nat} {A:Option Addr} {n c:Nat} {xs:List Value} (h:w.ownsRow base e size (.slice A n c) n xs):n<=c/\c<=maxLen:=by
 obtain ⟨A',c',e1,h1,h2⟩:=lW h
 cases e1;exact ⟨h1,h2⟩
theorem Yd {α:Type} {enc:α->List Value} {sz:Nat} (hsz: ∀ x,(enc x).length=sz): ∀ (k:Nat) (l:List α),(l.flatMap enc).drop (k*sz)=(l.drop k).flatMap enc
 | 0,l=>by simp
 | k+1,[]=>by simp
 | k+1,x::l=>by rw [List.flatMap_cons,Nat.succ_mul,Nat.add_comm,<-List.drop_drop,List.drop_left' (hsz x),Yd hsz k l];rfl
theorem aeh {w:World} {B:Nat} {A:Option Addr} {rs:List fT} (h:Rd w B 2 A (rs.length-1) (((rs.flatMap fT.cells).drop (1*2)).take ((rs.length-1)*2))):Rd w B 2 A (rs.length-1) ((rs.drop 1).flatMap fT.cells):=by
 rw [Yd (enc:=fT.cells) (sz:=2) (λ_=>rfl),List.take_of_length_le (by rw [iG (sz:=2) (λ_=>rfl),List.length_drop];exact Nat.le_refl _)] at h;exact h
theorem Mq {B g k c1 c2:Nat} {w0 w:World} {fs:List Fact} {A1 A2:Option Addr} {rs:List fT} {ls:List Ls} {W:jV} {ep nx gv kd id bd he hn:Int} (S:St B w0 w (.blk g (cZ ep nx gv (.slice A1 rs.length c1) (.slice A2 ls.length c2) W) 206:: .own 209 2 (.slice A1 rs.length c1) rs.length ((rs).flatMap fT.cells):: .own 212 4 (.slice A2 ls.length c2) ls.length ((ls).flatMap Ls.cells)::fs)) (hk:k<4) (hlen:rs.length+ls.length<=500) (hnx:0<=nx/\nx<=1073741824) (hgv:0<=gv/\gv<=1073741824) (dZ:0<=ep/\ep<=1048576):
    Calls Tryz.prog 117 #[pV g 0,.agg #[iV kd,iV ((k:Nat):Int),iV id,iV bd,iV he,iV hn]] w (D8 B w0 g fs (Ip ⟨ep,nx,gv,rs,ls,W⟩)):=by
 refine gB 80 Tryz.func117 ?_;refine cw [0,1] ?_;refine zN 2 ?_;refine iK S ?_;intro b1 w2 S3;refine fF S3 sM ?_;intro b4 w5 S6;refine zN 11 ?_;refine vv (aj rfl rfl (ay Tryz.underlying162 rfl (St.cl 2 S6 rfl oW))) ?_;refine zQ ?_;by_cases h1:rs.length=0
 ·refine zN 7 ?_;refine vv (v:= .agg #[iV 10,iV 0,iV 0,iV 0]) gD ?_;refine sa 0 S6 dw ?_;intro w7 S8;refine zN 7 ?_;have S9:=S8.aR [1,0];have oC:=S9.bH 1 rfl;have qj:=oC.bH 2 rfl;rw [aec h1];refine ⟨rfl,A1,c1,A2,c2,?_⟩;dsimp only;exact qj
 refine zN 11 ?_;refine vv (aj rfl rfl (ay Tryz.underlying3 rfl (St.cl 2 S6 rfl Ak))) ?_;by_cases h2:gv=1073741824
 ·refine zN 7 ?_;refine vv (v:= .agg #[iV 14,iV 0,iV 0,iV 0]) gD ?_;refine sa 0 S6 dw ?_;intro Zl wu;refine zN 7 ?_;have kg:=wu.aR [1,0];have gI:=kg.bH 1 rfl;have kQ:=gI.bH 2 rfl;rw [aed h1 h2];refine ⟨rfl,A1,c1,A2,c2,?_⟩;dsimp only;exact kQ
 refine zN 9 ?_;have lN:=S6.drew;refine fC 21 20 lN [] ?_;iterate 4 refine gM ?_
 refine gk (v:=iV ep) 4 rfl lN (λ_ FW=>(aj rfl rfl (ay Tryz.underlying3 rfl (St.cl 2 FW rfl xP)))) ?_;iterate 4 refine gM ?_
 refine gk (v:=iV gv) 9 rfl lN (λ_ axZ=>(aj rfl rfl (ay Tryz.underlying3 rfl (St.cl 2 axZ rfl Ak)))) ?_;refine gk (v:= .agg #[iV ep,iV gv]) 10 rfl lN (λ_ _=>gD) ?_;iterate 4 refine gM ?_
 refine gk (v:= .slice A1 rs.length c1) 15 rfl lN (λ_ alh=>(aj rfl rfl (ay Tryz.underlying162 rfl (St.cl 2 alh rfl oW)))) ?_;obtain ⟨b34,o35,rfl⟩:=Rd.addr (St.ord 3 lN rfl) (by omega);obtain ⟨Kt,apZ⟩:=L6 0 (St.ord 3 lN rfl) (by omega);refine gk 16 rfl lN (λ_ _=>jh 0) ?_;refine gk (v:= .agg #[iV Kt.no,iV Kt.body]) 17 rfl lN (λ_ ax0=>(aj rfl rfl (aA (cs:=fT.cells Kt) Tryz.underlying209 rfl EM rfl (Rd.vM (St.ord 3 ax0 rfl) (λ_ _ h=>bg (enc:=fT.cells) (sz:=2) (λ_=>rfl) apZ h))))) ?_;refine gk (v:= .agg #[iV ep,iV gv,iV Kt.no,iV Kt.body]) 18 rfl lN (λ_ _=>gD) ?_;refine eP (m:=1) (r:=19) (by kernel_rfl) ?_;refine lM (i:=19) rfl rfl (V:=λb=>pV b 0) (row:= #[iV 0,iV 0,iV 0,iV 0]) (t:=212) lN (wn rfl) rfl rfl (jk rfl (Tryz.zeroValue212 _) rfl) ?_;intro b41 Uq p9;refine gM ?_;refine eD (by kernel_rfl) rfl rfl rfl ?_;refine sa 0 p9 Hy ?_;intro Rt oD;refine zQ ?_;refine iU ?_;refine zN 8 ?_;refine vv (aj rfl rfl (ay Tryz.underlying162 rfl (St.cl 3 oD rfl oW))) ?_;have hcp:=dx (oD.own 4 rfl);obtain ⟨A46,ax1,ax2,ax3⟩:=AB (P:=Tryz.prog) (t:=162) (s:=2) (A:=(aD b34 o35)) (n:=rs.length) (c:=c1) (lo:=some (iV 1)) (hi:=none) (mx:=none) (l:=1) (k:=rs.length) (q:=c1) Tryz.underlying162 EM (afP 1 rfl (by omega)) (by omega) (Nat.le_refl _) (by omega);refine vv (v:= .slice A46 (rs.length-1) (c1-1)) (jE rfl rfl (iW rfl) l8 l8 (ax1 _)) ?_;have vO:=oD.seal 4 rfl (aeh (ax2 _ _ _ (St.ord 4 oD rfl))) (λa h=>ax3 a h);refine zN 3 ?_;refine jq 3 vO PE ?_ (hs:=by exact Il);intro Zm oZ;refine zN 3 ?_;have yR:=oZ.drew;refine fC 13 9 yR [5] ?_;iterate 5 refine gM ?_
 refine gk (v:= .slice A2 ls.length c2) 5 rfl (St.del 5 yR) (λ_ Zn=>(aj rfl rfl (ay Tryz.underlying163 rfl (St.cl 3 Zn rfl sN)))) ?_;refine gM ?_;refine eP (m:=5) (r:=7) (by kernel_rfl) ?_;refine lM (i:=7) rfl rfl (V:=λb=> .slice (aD b 0) 1 1) (row:= #[iV ep,iV gv,iV Kt.no,iV Kt.body]) (t:=212) yR (wn rfl) rfl rfl (aU (vs:=[(0,.agg #[iV ep,iV gv,iV Kt.no,iV Kt.body])]) rfl ⟨rfl,rfl,trivial⟩ (by kernel_rfl)) ?_;intro b61 Ye wz;refine gM ?_;refine eP (m:=4) (r:=8) (by kernel_rfl) ?_;refine kK (i:=8) rfl rfl (news:=[iV ep,iV gv,iV Kt.no,iV Kt.body]) (xs':=(ls++[(⟨ep,gv,Kt⟩:Ls)]).flatMap Ls.cells) 6 wz (wn rfl) rfl rfl rfl rfl rfl rfl (St.lV (xs:=[iV ep,iV gv,iV Kt.no,iV Kt.body]) 0 wz rfl rfl rfl) Tryz.underlying163 acA rfl (by decide) (bX rfl) (by simp only [maxLen];omega) (by omega) (jM (enc:=Ls.cells) rfl rfl) ?_;intro A64 c65 Ut aGN aGO uf;refine gM ?_;refine eD (by kernel_rfl) rfl rfl rfl ?_;refine zN 3 ?_;refine jq 4 uf PG ?_ (hs:=by exact Im);intro Zo rE;refine zQ ?_;refine iU ?_;refine zN 7 ?_;refine vv (aj rfl rfl (ay Tryz.underlying3 rfl (St.cl 4 rE rfl Ak))) ?_;refine vv (v:=iV (gv+1)) gN ?_;refine zN 3 ?_;refine jq 4 rE mZ ?_ (hs:=by exact X9);intro w72 tH;refine zN 5 ?_;refine vv (aj rfl rfl (aA (cs:=[iV ep,iV gv]) Tryz.underlying51 rfl U3 rfl (St.rg 1 tH rfl (nP (x:=0) (m:=2) rfl)))) ?_;refine zN 3 ?_;refine vv (v:= .agg #[iV 0,iV ep,iV gv,iV Kt.body]) gD ?_;refine sa 2 tH dw ?_;intro w74 AL;refine zN 5 ?_;have Jb:=AL.aR [3,2,1,0];have CB:=Jb.bH 2 rfl;have hl1:(rs.drop 1).length=rs.length-1:=by simp
 have hl2:(ls++[(⟨ep,gv,Kt⟩:Ls)]).length=ls.length+1:=by simp
 rw [aoh apZ h2];refine ⟨rfl,A46,(c1-1),A64,c65,?_⟩;dsimp only;rw [hl1,hl2];exact CB
section
variable {P:Program} {N:Nat} {l l':Slots} {w w' w0:World} {ops:Array Oper} {o:Oper} {rest:List Oper} {Q:Exit->Act->World->Prop} {d B:Nat} {v p:Value} {fs fs':List Fact} {b m f:Nat} {row row' cs:Array Value} {t ty:TypeId} {x y:Operand}
theorem saq (i:Nat) (S:St B w0 w fs) (hz:(P.info? ty).map (·.size)=some m) (h: ∀ w',St B w0 w' fs'->wL P N ops Q rest l w') (hw:o.guard=none:=by exact rfl) (hd:o.dst=none:=by exact rfl) (ho:o.op= .store ty x y:=by exact rfl)
  (hx:ev l x=some (.pointer (some ⟨b,0,none⟩)):=by exact rfl) (hy:ev l y=some v:=by exact rfl) (hi:fs[i]? =some (.blk b row t):=by exact rfl) (hv:v.cells=cs:=by exact rfl) (hm:cs.size=m:=by exact rfl)
  (h1: ∀ u∈cs.toList,u.oneCell'=true:=by exact JF rfl rfl) (hr:Nat.ble m row.size=true:=by exact rfl) (hs:row.size=cs.size:=by exact rfl) (hf:iJ (.blk b cs t) fs i fs':=by repeat' first | exact iJ.z | apply iJ.s):wL P N ops Q (o::rest) l w:=
 EJ i S (wn hw) hd ho hx hy hi hv hz hm h1 (by rw [Nat.zero_add];exact Nat.le_of_ble_eq_true hr) (qQ hs) hf.eq h
theorem Yf {C:World->Prop} {n:Nat} {listed listed':Array Bool} (j:Nat) (hi':ops[j]? =some o) (i:Nat) (S:St B w0 w fs) (hz:(P.info? ty).map (·.size)=some m) (h: ∀ w',St B w0 w' fs'->C w'/\wA P N ops Q C n listed' l w') (hl:listed.setIfInBounds j true=listed':=by exact rfl)
  (hw:o.guard=none:=by exact rfl) (hd:o.dst=none:=by exact rfl) (ho:o.op= .store ty x y:=by exact rfl) (hx:ev l x=some (.pointer (some ⟨b,0,none⟩)):=by exact rfl) (hy:ev l y=some v:=by exact rfl) (hi:fs[i]? =some (.blk b row t):=by exact rfl) (hv:v.cells=cs:=by exact rfl)
  (hm:cs.size=m:=by exact rfl) (h1: ∀ u∈cs.toList,u.oneCell'=true:=by exact JF rfl rfl) (hr:Nat.ble m row.size=true:=by exact rfl) (hs:row.size=cs.size:=by exact rfl) (hf:iJ (.blk b cs t) fs i fs':=by repeat' first | exact iJ.z | apply iJ.s):wK P N ops Q C n j listed l w:=
 tT hi' hl i S (wn hw) hd ho hx hy hi hv hz hm h1 (by rw [Nat.zero_add];exact Nat.le_of_ble_eq_true hr) (qQ hs) hf.eq h
end
end Go.Proofs.YthhnonpehllibaaGreatDoor
