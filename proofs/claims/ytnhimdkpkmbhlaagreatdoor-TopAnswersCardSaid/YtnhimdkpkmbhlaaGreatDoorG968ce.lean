import Derived.Test.YtnhimdkpkmbhlaaGreatDoorG002d6
import Derived.Test.YtnhimdkpkmbhlaaGreatDoorGf05f1
set_option maxRecDepth 100000
set_option maxHeartbeats 8000000
set_option linter.unusedSimpArgs false
set_option linter.unusedVariables false
namespace Go.Proofs.YtnhimdkpkmbhlaaGreatDoor
open ChangeShapes WideShapes RowKit
structure gM where
 no:Int
 body:Int
 deriving DecidableEq
structure Ls where
 dQ:Int
 hno:Int
 msg:gM
 deriving DecidableEq
structure kE where
 a:kV
 b:kV
 c:kV
 d:kV
 deriving DecidableEq
structure Qd where
 ep:Int
 nx:Int
 gv:Int
 ready:List gM
 bH:List Ls
 ws:kE
 deriving DecidableEq
def gM.cells (m:gM):List Value:=[iV m.no,iV m.body]
def Ls.cells (x:Ls):List Value:=[iV x.dQ,iV x.hno,iV x.msg.no,iV x.msg.body]
def kE.cells (x:kE):List Value:=x.a.cells++(x.b.cells++(x.c.cells++x.d.cells))
def kE.at (x:kE) (p:Nat):kV:=if p=0 then x.a else if p=1 then x.b else if p=2 then x.c else x.d
def kE.put (x:kE) (p:Nat) (y:kV):kE:=if p=0 then { x with a:=y } else if p=1 then { x with b:=y } else if p=2 then { x with c:=y } else { x with d:=y }
theorem kE.len (x:kE):x.cells.length=36:=rfl
theorem kV.len (x:kV):x.cells.length=9:=rfl
def dw (e n g:Int) (r l:Value) (W:kE):Array Value:=(iV e::iV n::iV g::r::l::W.cells).toArray
def jl:kE:=⟨ze,ze,ze,ze⟩
section
variable {e n g:Int} {r l:Value} {W:kE}
theorem wh:(dw e n g r l W).size=41:=rfl
theorem wS:(dw e n g r l W)[0]? =some (iV e):=rfl
theorem zo:(dw e n g r l W)[1]? =some (iV n):=rfl
theorem zq:(dw e n g r l W)[2]? =some (iV g):=rfl
theorem oK:(dw e n g r l W)[3]? =some r:=rfl
theorem rF:(dw e n g r l W)[4]? =some l:=rfl
theorem agz: ∀ (j:Nat) (u:Value),W.cells[j]? =some u->(dw e n g r l W)[5+j]? =some u:=je (m:=36) rfl
theorem agA: ∀ (j:Nat) (u:Value),(W.at 0).cells[j]? =some u->(dw e n g r l W)[5+j]? =some u:=je (m:=9) rfl
theorem agB: ∀ (j:Nat) (u:Value),(W.at 1).cells[j]? =some u->(dw e n g r l W)[14+j]? =some u:=je (m:=9) rfl
theorem agC: ∀ (j:Nat) (u:Value),(W.at 2).cells[j]? =some u->(dw e n g r l W)[23+j]? =some u:=je (m:=9) rfl
theorem agD: ∀ (j:Nat) (u:Value),(W.at 3).cells[j]? =some u->(dw e n g r l W)[32+j]? =some u:=je (m:=9) rfl
theorem agE {z:Int}:dn (dw e n g r l W) 0 [iV z]=dw z n g r l W:=rfl
theorem agF {z:Int}:dn (dw e n g r l W) 1 [iV z]=dw e z g r l W:=rfl
theorem Wn {z:Int}:dn (dw e n g r l W) 2 [iV z]=dw e n z r l W:=rfl
theorem Gx {z:Value}:dn (dw e n g r l W) 3 [z]=dw e n g z l W:=rfl
theorem Gy {z:Value}:dn (dw e n g r l W) 4 [z]=dw e n g r z W:=rfl
theorem agG {x:kV}:dn (dw e n g r l W) 5 x.cells=dw e n g r l (W.put 0 x):=by
 apply Array.toList_inj.1;rw [gQ _ _ _ (by rw [wh,kV.len];omega)];rfl
theorem agH {x:kV}:dn (dw e n g r l W) 14 x.cells=dw e n g r l (W.put 1 x):=by
 apply Array.toList_inj.1;rw [gQ _ _ _ (by rw [wh,kV.len];omega)];rfl
theorem agI {x:kV}:dn (dw e n g r l W) 23 x.cells=dw e n g r l (W.put 2 x):=by
 apply Array.toList_inj.1;rw [gQ _ _ _ (by rw [wh,kV.len];omega)];rfl
theorem agJ {x:kV}:dn (dw e n g r l W) 32 x.cells=dw e n g r l (W.put 3 x):=by
 apply Array.toList_inj.1;rw [gQ _ _ _ (by rw [wh,kV.len];omega)];rfl
theorem Gz (x:kV): ∀ u∈x.cells,u.oneCell'=true:=bL rfl
theorem acG (x:kE): ∀ u∈x.cells,u.oneCell'=true:=bL rfl
theorem Iq (hr:r.oneCell'=true) (hl:l.oneCell'=true): ∀ u∈(dw e n g r l W).toList,u.oneCell'=true:=by
 intro u hu;simp only [dw,List.mem_cons] at hu
 rcases hu with rfl | rfl | rfl | rfl | rfl | hu
 ·rfl
 ·rfl
 ·rfl
 ·exact hr
 ·exact hl
 exact acG W u hu
end
def SY (w:World) (k:Int) (e:Ending) (w':World):Prop:=e= .returned (iV k)/\Below w.heap.size w w'
def Bd (w:World) (b:Bool) (e:Ending) (w':World):Prop:=e= .returned (.bool b)/\Below w.heap.size w w'
def vJ (nx:Int) (m:gM):Bool:=decide (0<=m.no/\m.no<nx/\0<=m.body/\m.body<=1000000)
theorem Pt {nx:Int} {m:gM} (h:vJ nx m=true):0<=m.no/\m.no<nx/\0<=m.body/\m.body<=1000000:=of_decide_eq_true h
def l7 (nx:Int):Int->List gM->Bool
 | _,[]=>true
 | p,m::r=>(vJ nx m&&decide (p<m.no))&&l7 nx m.no r
def Lx (ep nx gv p:Int) (x:Ls):Bool:=vJ nx x.msg&&decide (x.dQ=ep/\p<x.hno/\x.hno<gv)
def nZ (ep nx gv:Int):Int->List Ls->Bool
 | _,[]=>true
 | p,x::r=>Lx ep nx gv p x&&nZ ep nx gv x.hno r
def zu (rs:List gM) (ls:List Ls):List Int:=rs.map (·.no)++ls.map (·.msg.no)
def Ta (ep nx gv:Int) (rs:List gM) (ls:List Ls):Prop:=0<=ep/\ep<=1048576/\0<=nx/\nx<=1073741824/\0<=gv/\gv<=1073741824/\rs.length+ls.length<=500
def Hr (W:kE):Prop:= ∀ j,j<4->fE (W.at j)=0
open Classical in
noncomputable def jc (ep nx gv:Int) (rs:List gM) (ls:List Ls) (W:kE):Int:=
 if ¬ Ta ep nx gv rs ls then 6 else if ¬ Hr W then 6 else if l7 nx (-1) rs=true/\nZ ep nx gv (-1) ls=true/\(zu rs ls).Nodup then 0 else 6
section
variable {ep nx gv p:Int} {rs:List gM} {ls:List Ls} {W:kE}
theorem AO (h: ¬ (0<=ep/\ep<=1048576/\0<=nx/\nx<=1073741824/\0<=gv/\gv<=1073741824/\rs.length+ls.length<=500)):jc ep nx gv rs ls W=6:=if_pos h
theorem yA (h: ¬ (Hr W/\l7 nx (-1) rs=true/\nZ ep nx gv (-1) ls=true/\(zu rs ls).Nodup)):jc ep nx gv rs ls W=6:=by
 unfold jc
 split
 ·rfl
 split
 ·rfl
 rename_i h1 h2
 rw [if_neg (λh3=>h ⟨Classical.not_not.1 h2,h3⟩)]
theorem ams {j:Nat} (hj:j<4) (h:fE (W.at j)≠0):jc ep nx gv rs ls W=6:=yA λh1=>h (h1.1 j hj)
theorem asl (h0:Ta ep nx gv rs ls) (h1:Hr W) (h2:l7 nx (-1) rs=true) (h3:nZ ep nx gv (-1) ls=true) (h4:(zu rs ls).Nodup):jc ep nx gv rs ls W=0:=by
 unfold jc;rw [if_neg (λh=>h h0),if_neg (λh=>h h1),if_pos ⟨h2,h3,h4⟩]
theorem Ir {k:Nat} {m:gM} (h:rs[k]? =some m):l7 nx p (rs.drop k)=((vJ nx m&&decide (p<m.no))&&l7 nx m.no (rs.drop (k+1))):=by
 obtain ⟨hk,hm⟩:=List.getElem?_eq_some_iff.1 h;rw [List.drop_eq_getElem_cons hk,hm];rfl
theorem Ck {k:Nat} {x:Ls} (h:ls[k]? =some x):nZ ep nx gv p (ls.drop k)=(Lx ep nx gv p x&&nZ ep nx gv x.hno (ls.drop (k+1))):=by
 obtain ⟨hk,hm⟩:=List.getElem?_eq_some_iff.1 h;rw [List.drop_eq_getElem_cons hk,hm];rfl
theorem Iu {α β:Type} {f:α->β} {l:List α} {k:Nat} {x:α} (h:l[k]? =some x):(l.take k).map f++[f x]=(l.take (k+1)).map f:=by
 rw [List.take_add_one,h];simp
theorem agK (x:kV):fE x=0\/fE x=6:=by unfold fE;split<;>simp
end
theorem QV (W:kE) (w:World):(Instr.index 44 (.agg W.cells.toArray) (iV 0)).run Tryz.prog w= .ok (.agg (W.at 0).cells.toArray) w:=by kernel_rfl
theorem QW (W:kE) (w:World):(Instr.index 44 (.agg W.cells.toArray) (iV 1)).run Tryz.prog w= .ok (.agg (W.at 1).cells.toArray) w:=by kernel_rfl
theorem QX (W:kE) (w:World):(Instr.index 44 (.agg W.cells.toArray) (iV 2)).run Tryz.prog w= .ok (.agg (W.at 2).cells.toArray) w:=by kernel_rfl
theorem QY (W:kE) (w:World):(Instr.index 44 (.agg W.cells.toArray) (iV 3)).run Tryz.prog w= .ok (.agg (W.at 3).cells.toArray) w:=by kernel_rfl
theorem UK (W:kE) (k:Nat) (hk:k<4) (w:World):(Instr.index 44 (.agg W.cells.toArray) (iV k)).run Tryz.prog w= .ok (.agg (W.at k).cells.toArray) w:=by
 have h:k=0\/k=1\/k=2\/k=3:=by omega
 rcases h with rfl | rfl | rfl | rfl
 ·exact QV W w
 ·exact QW W w
 ·exact QX W w
 exact QY W w
theorem agL {e n g:Int} {r l:Value} {W:kE} {k:Nat} (hk:k<4): ∀ (j:Nat) (u:Value),(W.at k).cells[j]? =some u->(dw e n g r l W)[5+k*9+j]? =some u:=by
 have h:k=0\/k=1\/k=2\/k=3:=by omega
 rcases h with rfl | rfl | rfl | rfl
 ·exact agA
 ·exact agB
 ·exact agC
 exact agD
theorem iO {α:Type} {enc:α->List Value} {l l':List α} {x:α} {cs:List Value} (h:l++[x]=l') (he:enc x=cs):l.flatMap enc++cs=l'.flatMap enc:=by
 subst h;subst he;simp
structure iH where
 code:Int
 dQ:Int
 hno:Int
 body:Int
 deriving DecidableEq
def gV:iH:=⟨0,0,0,0⟩
def qQ (k:Int):iH:=⟨k,0,0,0⟩
def iH.cells (a:iH):List Value:=[iV a.code,iV a.dQ,iV a.hno,iV a.body]
def iH.val (a:iH):Value:= .agg #[iV a.code,iV a.dQ,iV a.hno,iV a.body]
def EB (Q:Qd) (k:Nat) (id bd:Int):Qd×iH×Bool:=
 if (jG (Q.ws.at k) id).2.2≠0 then (Q,qQ (jG (Q.ws.at k) id).2.2,false)
 else if (jG (Q.ws.at k) id).2.1=false then (Q,gV,false)
 else if Q.ready.length+Q.bH.length=500\/Q.nx=1073741824 then (Q,qQ 14,false)
 else (⟨Q.ep,Q.nx+1,Q.gv,Q.ready++[⟨Q.nx,bd⟩],Q.bH,Q.ws.put k (jG (Q.ws.at k) id).1⟩,gV,true)
def LA (Q:Qd):Qd×iH×Bool:=match Q.ready with
 | []=>(Q,qQ 10,false)
 | m::rest=>if Q.gv=1073741824 then (Q,qQ 14,false) else (⟨Q.ep,Q.nx,Q.gv+1,rest,Q.bH++[⟨Q.ep,Q.gv,m⟩],Q.ws⟩,⟨0,Q.ep,Q.gv,m.body⟩,true)
def JX (Q:Qd) (he hn:Int):Qd×iH×Bool:=
 if he≠Q.ep then (Q,qQ 11,false)
 else if (Q.bH.filter λx=>decide (x.hno≠hn)).length=Q.bH.length then (Q,qQ 7,false)
 else (⟨Q.ep,Q.nx,Q.gv,Q.ready,Q.bH.filter λx=>decide (x.hno≠hn),Q.ws⟩,gV,true)
def qH (m:gM):List gM->List gM
 | []=>[m]
 | x::l=>if m.no<x.no then m::x::l else x::qH m l
def Tc (Q:Qd):Qd×iH×Bool:=
 if Q.ep=1048576 then (Q,qQ 14,false)
 else (⟨Q.ep+1,Q.nx,0,Q.bH.foldl (λl x=>qH x.msg l) Q.ready,[],Q.ws⟩,gV,true)
section
variable {ep nx gv bd id he hn:Int} {rs:List gM} {ls:List Ls} {W:kE} {k:Nat}
theorem agM (h: ¬ (jG (W.at k) id).2.2=0):EB ⟨ep,nx,gv,rs,ls,W⟩ k id bd=(⟨ep,nx,gv,rs,ls,W⟩,qQ (jG (W.at k) id).2.2,false):=if_pos h
theorem agN (h:(jG (W.at k) id).2.2=0) (h1:(jG (W.at k) id).2.1=false):EB ⟨ep,nx,gv,rs,ls,W⟩ k id bd=(⟨ep,nx,gv,rs,ls,W⟩,gV,false):=by
 unfold EB;rw [if_neg (λh2=>h2 h),if_pos h1]
theorem Pv (h:(jG (W.at k) id).2.2=0) (h1:(jG (W.at k) id).2.1=true) (h2:rs.length+ls.length=500\/nx=1073741824):EB ⟨ep,nx,gv,rs,ls,W⟩ k id bd=(⟨ep,nx,gv,rs,ls,W⟩,qQ 14,false):=by
 unfold EB;rw [if_neg (λh2=>h2 h),if_neg (λh3=>by rw [h1] at h3;cases h3),if_pos h2]
theorem amt (h:(jG (W.at k) id).2.2=0) (h1:(jG (W.at k) id).2.1=true) (h2: ¬ (rs.length+ls.length=500\/nx=1073741824)):EB ⟨ep,nx,gv,rs,ls,W⟩ k id bd=(⟨ep,nx+1,gv,rs++[⟨nx,bd⟩],ls,W.put k (jG (W.at k) id).1⟩,gV,true):=by
 unfold EB;rw [if_neg (λh2=>h2 h),if_neg (λh3=>by rw [h1] at h3;cases h3),if_neg h2]
theorem acH (h:rs.length=0):LA ⟨ep,nx,gv,rs,ls,W⟩=(⟨ep,nx,gv,rs,ls,W⟩,qQ 10,false):=by
 cases rs with
 | nil=>rfl
 | cons m r=>simp at h
theorem acI (h: ¬ rs.length=0) (h1:gv=1073741824):LA ⟨ep,nx,gv,rs,ls,W⟩=(⟨ep,nx,gv,rs,ls,W⟩,qQ 14,false):=by
 cases rs with
 | nil=>simp at h
 | cons m r=>exact if_pos h1
theorem amu {m:gM} (h:rs[0]? =some m) (h1: ¬ gv=1073741824):LA ⟨ep,nx,gv,rs,ls,W⟩=(⟨ep,nx,gv+1,rs.drop 1,ls++[⟨ep,gv,m⟩],W⟩,⟨0,ep,gv,m.body⟩,true):=by
 cases rs with
 | nil=>simp at h
 | cons m r=>
  simp at h;subst h;exact if_neg h1
theorem XQ (h: ¬ he=ep):JX ⟨ep,nx,gv,rs,ls,W⟩ he hn=(⟨ep,nx,gv,rs,ls,W⟩,qQ 11,false):=if_pos h
theorem acJ (h:he=ep) (h1:(ls.filter λx=>decide (x.hno≠hn)).length=ls.length):JX ⟨ep,nx,gv,rs,ls,W⟩ he hn=(⟨ep,nx,gv,rs,ls,W⟩,qQ 7,false):=by
 unfold JX;rw [if_neg (λh2=>h2 h),if_pos h1]
theorem amv (h:he=ep) (h1: ¬ (ls.filter λx=>decide (x.hno≠hn)).length=ls.length):JX ⟨ep,nx,gv,rs,ls,W⟩ he hn=(⟨ep,nx,gv,rs,ls.filter λx=>decide (x.hno≠hn),W⟩,gV,true):=by
 unfold JX;rw [if_neg (λh2=>h2 h),if_neg h1]
theorem acL (h:ep=1048576):Tc ⟨ep,nx,gv,rs,ls,W⟩=(⟨ep,nx,gv,rs,ls,W⟩,qQ 14,false):=if_pos h
theorem amw (h: ¬ ep=1048576):Tc ⟨ep,nx,gv,rs,ls,W⟩=(⟨ep+1,nx,0,ls.foldl (λl x=>qH x.msg l) rs,[],W⟩,gV,true):=if_neg h
end
theorem agO {e n g:Int} {r l:Value} {W:kE} {x:kV} {k:Nat} (hk:k<4):dn (dw e n g r l W) (5+k*9) x.cells=dw e n g r l (W.put k x):=by
 match k,hk with
 | 0,_=>exact agG
 | 1,_=>exact agH
 | 2,_=>exact agI
 | 3,_=>exact agJ
def CV (B:Nat) (w0:World) (g:Nat) (fs:List Fact) (r:Qd×iH×Bool) (e:Ending) (w':World):Prop:=
 e= .returned (.tuple #[r.2.1.val,.bool r.2.2])/\ ∃ A1 c1 A2 c2,St B w0 w' (.blk g (dw r.1.ep r.1.nx r.1.gv (.slice A1 r.1.ready.length c1) (.slice A2 r.1.bH.length c2) r.1.ws) 91:: .cZ 2 A1 r.1.ready.length (r.1.ready.flatMap gM.cells):: .cZ 4 A2 r.1.bH.length (r.1.bH.flatMap Ls.cells)::fs)
instance:yt gM where
 size:=2
 ints m:=[m.no,m.body]
 of xs:=⟨xs.getD 0 0,xs.getD 1 0⟩
 pos:=by decide
 len _:=rfl
 inv xs h:=by
  match xs,h with
  | [a,b],_=>rfl
instance:yt Ls where
 size:=4
 ints m:=[m.dQ,m.hno,m.msg.no,m.msg.body]
 of xs:=⟨xs.getD 0 0,xs.getD 1 0,⟨xs.getD 2 0,xs.getD 3 0⟩⟩
 pos:=by decide
 len _:=rfl
 inv xs h:=by
  match xs,h with
  | [a,b,c,d],_=>rfl
theorem acM (l:List gM): ∀ u∈l.flatMap gM.cells,u.oneCell'=true:=Du l
theorem Wo (l:List Ls): ∀ u∈l.flatMap Ls.cells,u.oneCell'=true:=Du l
section
variable {P:Program} {w:World} {t e:TypeId} {xo yo:Operand}
theorem uo {A:Option Addr} {n c:Nat} (h:P.underlying t=some (.slice e)):(do eqGuard .eql t xo yo (.slice A n c) (.slice none 0 0);binOp .eql t (.slice A n c) (.slice none 0 0):Sem Value).run P w= .ok (.bool A.isNone) w:=by
 rw [Sem.run_bind,show (eqGuard .eql t xo yo (.slice A n c) (.slice none 0 0)).run P w= .ok () w from rfl];exact Lib.run_eql_slice_nil w t e A n c 0 0 h
end
theorem GA {w:World} {B s n:Nat} {xs:List Value} (h:Rd w B s none n xs):n=0/\xs=[]:=by
 have h1:n=0:=by
  rcases Nat.eq_zero_or_pos n with h0 | h0
  ·exact h0
  obtain ⟨b,off,e,_⟩:=h.2 h0
  cases e
 subst h1;exact ⟨rfl,List.eq_nil_of_length_eq_zero (by have:=h.1;omega)⟩
theorem NT (A:Option Addr) (n c:Nat) (l:List Value) (w:World) (h:Rd w w.heap.size 2 A n l) (hone: ∀ u∈l,u.oneCell'=true) (hc:n*16<=reachBytes):
    Calls Tryz.prog 26 #[.slice A n c] w (jd w 62 2 n l):=by
 unfold reachBytes at hc;have S:=(St.start w).bZ h;refine gy 8 Tryz.func26 ?_;refine cw [0] ?_;refine zN 9 ?_
 cases A with
 | none=>
  obtain ⟨rfl,rfl⟩:=GA h;refine vv (v:= .bool true) (aF rfl rfl rfl (uo Tryz.underlying39)) ?_;refine zN 11 ?_;exact jd.of (Below.refl _ _) (iN _ _ _ _)
 | some a=>
  refine vv (v:= .bool false) (aF rfl rfl rfl (uo Tryz.underlying39)) ?_;refine zN 7 ?_;refine qb (V:=λb=> .slice (aD b 0) 0 0) (row:= #[]) (t:=62) (n:=0) (s:=2) (xs:=[]) S (wn rfl) rfl rfl (aV (vs:=[]) rfl trivial (by kernel_rfl)) (by simp) (Nat.zero_le _) rfl ?_;intro b1 w2 S3;refine zQ ?_;refine dI (news:=l) (xs':=l) 0 S3 (wn rfl) rfl rfl rfl rfl rfl rfl (St.rd 1 S3 rfl) Tryz.underlying39 RS rfl (by decide) hone (by simp only [maxLen];omega) (by omega) rfl ?_;intro A4 c5 w6 hc8 qd S7;refine zN 5 ?_;have pI:=S7.aT [1];have ho:=pI.own 0 rfl;simp only [Nat.zero_add] at ho⊢;exact jd.of pI.low ho
theorem NU (A:Option Addr) (n c:Nat) (l:List Value) (w:World) (h:Rd w w.heap.size 4 A n l) (hone: ∀ u∈l,u.oneCell'=true) (hc:n*32<=reachBytes):
    Calls Tryz.prog 27 #[.slice A n c] w (jd w 64 4 n l):=by
 unfold reachBytes at hc;have S:=(St.start w).bZ h;refine gy 8 Tryz.func27 ?_;refine cw [0] ?_;refine zN 9 ?_
 cases A with
 | none=>
  obtain ⟨rfl,rfl⟩:=GA h;refine vv (v:= .bool true) (aF rfl rfl rfl (uo Tryz.underlying40)) ?_;refine zN 11 ?_;exact jd.of (Below.refl _ _) (iN _ _ _ _)
 | some a=>
  refine vv (v:= .bool false) (aF rfl rfl rfl (uo Tryz.underlying40)) ?_;refine zN 7 ?_;refine qb (V:=λb=> .slice (aD b 0) 0 0) (row:= #[]) (t:=64) (n:=0) (s:=4) (xs:=[]) S (wn rfl) rfl rfl (aV (vs:=[]) rfl trivial (by kernel_rfl)) (by simp) (Nat.zero_le _) rfl ?_;intro b1 w2 S3;refine zQ ?_;refine dI (news:=l) (xs':=l) 0 S3 (wn rfl) rfl rfl rfl rfl rfl rfl (St.rd 1 S3 rfl) Tryz.underlying40 aa5 rfl (by decide) hone (by simp only [maxLen];omega) (by omega) rfl ?_;intro A4 c5 w6 hc8 qd S7;refine zN 5 ?_;have pI:=S7.aT [1];have ho:=pI.own 0 rfl;simp only [Nat.zero_add] at ho⊢;exact jd.of pI.low ho
theorem Bu (e nx g:Int) (r l:Value) (W:kE) (m:gM) (w:World):
    Calls Tryz.prog 40 #[.agg (dw e nx g (r) (l) W),.agg #[iV m.no,iV m.body]] w (Bd w (vJ nx m)):=by
 have S:=St.start w;refine gy 25 Tryz.func40 ?_;refine cw [0,1] ?_;refine zN 2 ?_;refine iC S ?_;intro b1 w2 S3;refine iC S3 ?_;intro b4 w5 S6;refine zN 7 ?_;by_cases h7:0<=m.no
 ·refine zN 5 ?_;refine vg (ah rfl rfl (av Tryz.underlying3 rfl (St.cl 1 S6 rfl zo))) ?_;by_cases h8:m.no<nx
  ·refine zN 5 ?_;by_cases h9:0<=m.body
   ·refine zN 5 ?_;by_cases h10:m.body<=1000000
    ·refine zN 7 ?_;refine ⟨?_,S6.low⟩;rw [show vJ nx m=true from decide_eq_true ⟨‹_›,‹_›,‹_›,‹_›⟩];rfl
    refine zN 7 ?_;refine ⟨?_,S6.low⟩;rw [show vJ nx m=false from decide_eq_false (λh=>absurd h.2.2.2 ‹_›)];rfl
   refine zN 12 ?_;refine ⟨?_,S6.low⟩;rw [show vJ nx m=false from decide_eq_false (λh=>absurd h.2.2.1 ‹_›)];rfl
  refine zN 17 ?_;refine ⟨?_,S6.low⟩;rw [show vJ nx m=false from decide_eq_false (λh=>absurd h.2.1 ‹_›)];rfl
 refine zN 23 ?_;refine ⟨?_,S6.low⟩;rw [show vJ nx m=false from decide_eq_false (λh=>absurd h.1 ‹_›)];rfl
theorem KN {B g k c1 c2:Nat} {w0 w:World} {fs:List Fact} {A1 A2:Option Addr} {rs:List gM} {ls:List Ls} {W:kE} {ep nx gv kd id bd he hn:Int} (S:St B w0 w (.blk g (dw ep nx gv (.slice A1 rs.length c1) (.slice A2 ls.length c2) W) 91:: .own 62 2 (.slice A1 rs.length c1) rs.length ((rs).flatMap gM.cells):: .own 64 4 (.slice A2 ls.length c2) ls.length ((ls).flatMap Ls.cells)::fs)) (hk:k<4) (hlen:rs.length+ls.length<=500) (hnx:0<=nx/\nx<=1073741824) (hgv:0<=gv/\gv<=1073741824) (dQ:0<=ep/\ep<=1048576):
    Calls Tryz.prog 28 #[pV g 0,.agg #[iV kd,iV ((k:Nat):Int),iV id,iV bd,iV he,iV hn]] w (CV B w0 g fs (EB ⟨ep,nx,gv,rs,ls,W⟩ k id bd)):=by
 refine gy 94 Tryz.func28 ?_;refine cw [0,1] ?_;refine zN 2 ?_;refine iC S ?_;intro b1 w2 S3;refine fO S3 rE ?_;intro b4 w5 S6;refine zN 3 ?_;refine mh (X:=Nat) (λxv=>[(0,pV g 0),(3,pV b1 0),(4,pV b4 0),(5,.bool false),(6,pV xv 0),(7,.bool ((jG (W.at k) id).2.1)),(8,iV ((jG (W.at k) id).2.2))]) (λxv wr=>St B w0 wr ((.blk xv (((jG (W.at k) id).1.cells).toArray) 43)::(.blk b4 #[iV 0,iV 0,iV 0,iV 0] 58)::(.blk b1 #[iV kd,iV ((k:Nat):Int),iV id,iV bd,iV he,iV hn] 55)::(.blk g (dw ep nx gv (.slice A1 rs.length c1) (.slice A2 ls.length c2) W) 91)::(.own 62 2 (.slice A1 rs.length c1) rs.length ((rs).flatMap gM.cells))::(.own 64 4 (.slice A2 ls.length c2) ls.length ((ls).flatMap Ls.cells))::fs)) ?_ ?_
 ·have S7:=S6.drew;refine aK 19 S7 [] ?_;refine aL 6 ?_;refine ak (v:=pV g (5+k*9)) 6 rfl S7 (λ_ _=>(aO rfl rfl rfl (fD k Tryz.underlying44 Dz rfl hk))) ?_;refine ak (v:= .agg (((W.at k).cells).toArray)) 7 rfl S7 (λ_ ajs=>(ah rfl rfl (aA (cs:=(W.at k).cells) Tryz.underlying43 rfl Dz rfl (St.rg 2 ajs rfl (agL hk))))) ?_;refine aL 2 ?_;refine gU (n:=8) (r:=10) (s:=15) (by kernel_rfl) ?_ ?_
  ·refine jC 10 rfl an6 (Fw (W.at k) id _) ?_;rintro _ Ht ⟨rfl,ajt⟩;refine ⟨_,rfl,?_⟩;have kM:=S7.on ajt;refine aL 5 ?_;refine aX 15 ?_;refine kX 15 rfl kM ajr ?_;intro Pw LB rW;refine dG ?_;refine aX 16 ?_;refine XO 16 rfl 0 rW Dz ?_ (h1:=Gz _);intro RY nH;refine aL 4 ?_;refine dJ Pw ?_ ⟨rfl,rfl,rfl,rfl,rfl,rfl,rfl,trivial⟩;exact nH
  refine kX 15 rfl S7 ajr ?_;intro b32 Wp oZ;refine dG ?_;refine aX 10 ?_;refine jC 10 rfl an6 (Fw (W.at k) id _) ?_;rintro _ RZ ⟨rfl,aju⟩;refine ⟨_,rfl,?_⟩;have kF:=oZ.on aju;refine aL 5 ?_;refine aX 16 ?_;refine XO 16 rfl 0 kF Dz ?_ (h1:=Gz _);intro R4 rX;refine aL 4 ?_;refine dJ b32 ?_ ⟨rfl,rfl,rfl,rfl,rfl,rfl,rfl,trivial⟩;exact rX
 rintro b46 w47 uZ
 try dsimp only at uZ
 refine bn (l':=[(0,pV g 0),(3,pV b1 0),(4,pV b4 0),(5,.bool false),(6,pV b46 0),(7,.bool ((jG (W.at k) id).2.1)),(8,iV ((jG (W.at k) id).2.2))]) ⟨rfl,rfl,rfl,rfl,rfl,rfl,rfl,trivial⟩ (aH (lg (aH (aB (vm ?_)))));by_cases h1:(jG (W.at k) id).2.2=0
 ·refine zN 8 ?_
  cases h2:(jG (W.at k) id).2.1
  ·refine zN 8 ?_;refine sa 1 uZ bQ ?_;intro w49 wm;refine zN 7 ?_;have uq:=wm.aT [2,1,0];have nT:=uq.bD 1 rfl;have wo:=nT.bD 2 rfl;rw [agN h1 h2];refine ⟨rfl,A1,c1,A2,c2,?_⟩;dsimp only;exact wo
  refine zN 6 ?_;refine dY uZ mixed (by kernel_rfl) ?_;refine zN 4 ?_;refine uv (v:= .slice A1 rs.length c1) (λ_ awz=>(ah rfl rfl (av Tryz.underlying39 rfl (St.cl 3 awz rfl oK)))) ?_;refine zN 5 ?_;refine uv (v:= .slice A2 ls.length c2) (λ_ XR=>(ah rfl rfl (av Tryz.underlying40 rfl (St.cl 3 XR rfl rF)))) ?_;refine zQ ?_;refine uv (v:=iV ((rs.length+ls.length:Nat):Int)) (λ_ _=>jg) ?_;by_cases h3:rs.length+ls.length=500
  ·refine zN 10 ?_;refine fC λw71 DV=>?_;refine zN 4 ?_;refine vv (v:= .agg #[iV 14,iV 0,iV 0,iV 0]) fT ?_;refine sa 1 DV bQ ?_;intro w73 LD;refine zN 7 ?_;have EC:=LD.aT [2,1,0];have Hu:=EC.bD 1 rfl;have DW:=Hu.bD 2 rfl;rw [Pv h1 h2 (.inl h3)];refine ⟨rfl,A1,c1,A2,c2,?_⟩;dsimp only;exact DW
  refine zN 6 ?_;refine ug (v:=iV nx) (λ_ awC=>(ah rfl rfl (av Tryz.underlying3 rfl (St.cl 3 awC rfl zo)))) ?_;by_cases h4:nx=1073741824
  ·refine zN 3 ?_;refine fC λw88 Kw=>?_;refine zN 4 ?_;refine vv (v:= .agg #[iV 14,iV 0,iV 0,iV 0]) fT ?_;refine sa 1 Kw bQ ?_;intro w90 Ky;refine zN 7 ?_;have xW:=Ky.aT [2,1,0];have Bv:=xW.bD 1 rfl;have FL:=Bv.bD 2 rfl;rw [Pv h1 h2 (.inr h4)];refine ⟨rfl,A1,c1,A2,c2,?_⟩;dsimp only;exact FL
  refine zN 3 ?_;refine fC λw98 XT=>?_;refine zN 6 ?_;have qR:=XT.drew;refine aK 9 qR [3] ?_;refine aL 7 ?_;refine ak (v:=pV g (5+k*9)) 7 rfl (St.del 3 qR) (λ_ _=>(aO rfl rfl rfl (fD k Tryz.underlying44 Dz rfl hk))) ?_;refine aX 8 ?_;refine sG (i:=8) rfl rfl (cs:=((jG (W.at k) id).1.cells).toArray) (row':=dw ep nx gv (.slice A1 rs.length c1) (.slice A2 ls.length c2) (W.put k (jG (W.at k) id).1)) (fs':=(.blk b46 (((jG (W.at k) id).1.cells).toArray) 43)::(.blk b4 #[iV 0,iV 0,iV 0,iV 0] 58)::(.blk b1 #[iV kd,iV ((k:Nat):Int),iV id,iV bd,iV he,iV hn] 55)::(.blk g (dw ep nx gv (.slice A1 rs.length c1) (.slice A2 ls.length c2) (W.put k (jG (W.at k) id).1)) 91)::(.own 62 2 (.slice A1 rs.length c1) rs.length ((rs).flatMap gM.cells))::(.own 64 4 (.slice A2 ls.length c2) ls.length ((ls).flatMap Ls.cells))::fs) 3 qR (wn rfl) rfl rfl rfl rfl rfl rfl Dz rfl (Gz _) (by rw [wh];omega) (agO hk) rfl ?_;intro XU qg;refine aL 2 ?_;refine zN 2 ?_;have ED:=qg.drew;refine fq 20 16 ED [4] ?_;iterate 5 refine gK ?_
  refine gk (v:= .slice A1 rs.length c1) 5 rfl (St.del 4 ED) (λ_ asn=>(ah rfl rfl (av Tryz.underlying39 rfl (St.cl 3 asn rfl oK)))) ?_;iterate 4 refine gK ?_
  refine gk (v:=iV nx) 10 rfl (St.del 4 ED) (λ_ aso=>(ah rfl rfl (av Tryz.underlying3 rfl (St.cl 3 aso rfl zo)))) ?_;iterate 2 refine gK ?_
  refine gk (v:= .agg #[iV nx,iV bd]) 13 rfl (St.del 4 ED) (λ_ _=>fT) ?_;refine eH (m:=5) (r:=14) (by kernel_rfl) ?_;refine lK (i:=14) rfl rfl (V:=λb=> .slice (aD b 0) 1 1) (row:= #[iV nx,iV bd]) (t:=62) ED (wn rfl) rfl rfl (aV (vs:=[(0,.agg #[iV nx,iV bd])]) rfl ⟨rfl,rfl,trivial⟩ (by kernel_rfl)) ?_;intro aFB XV xq;refine gK ?_;refine eH (m:=4) (r:=15) (by kernel_rfl) ?_;refine kJ (i:=15) rfl rfl (news:=[iV nx,iV bd]) (xs':=(rs++[(⟨nx,bd⟩:gM)]).flatMap gM.cells) 5 xq (wn rfl) rfl rfl rfl rfl rfl rfl (St.lC (xs:=[iV nx,iV bd]) 0 xq rfl rfl rfl) Tryz.underlying39 RS rfl (by decide) (bL rfl) (by simp only [maxLen];omega) (by omega) (iO (enc:=gM.cells) rfl rfl) ?_;intro awD c130 aed aCr aCs xu;refine gK ?_;refine eG (by kernel_rfl) rfl rfl rfl ?_;refine zN 3 ?_;refine jk 4 xu NM ?_ (hs:=by exact Gx);intro aoh CW;refine zQ ?_;refine iK ?_;refine zN 7 ?_;refine vv (ah rfl rfl (av Tryz.underlying3 rfl (St.cl 4 CW rfl zo))) ?_;refine vv (v:=iV (nx+1)) jg ?_;refine zN 3 ?_;refine jk 4 CW mU ?_ (hs:=by exact agF);intro aoi CY;refine zN 5 ?_;refine sa 2 CY bQ ?_;intro awE EF;refine zN 5 ?_;have awF:=EF.aT [3,2,1,0];have GD:=awF.bD 1 rfl;have Td:=GD.bD 2 rfl;rw [amt h1 h2 (λh=>h.elim h3 h4)];have hln:=(by simp:(rs++[(⟨nx,bd⟩:gM)]).length=rs.length+1);refine ⟨rfl,awD,c130,A2,c2,?_⟩;dsimp only;rw [hln];exact Td
 refine zN 8 ?_;refine vv (v:= .agg #[iV ((jG (W.at k) id).2.2),iV 0,iV 0,iV 0]) fT ?_;refine sa 1 uZ bQ ?_;intro aee JY;refine zN 7 ?_;have OM:=JY.aT [2,1,0];have OO:=OM.bD 1 rfl;have Bf:=OO.bD 2 rfl;rw [agM h1];refine ⟨rfl,A1,c1,A2,c2,?_⟩;dsimp only;exact Bf
theorem dU {w:World} {base:Nat} {e:TypeId} {size:Nat} {A:Option Addr} {n c:Nat} {xs:List Value} (h:w.ownsRow base e size (.slice A n c) n xs):n<=c/\c<=maxLen:=by
 obtain ⟨A',c',e1,h1,h2⟩:=lX h
 cases e1;exact ⟨h1,h2⟩
theorem Wq {α:Type} {enc:α->List Value} {sz:Nat} (hsz: ∀ x,(enc x).length=sz): ∀ (k:Nat) (l:List α),(l.flatMap enc).drop (k*sz)=(l.drop k).flatMap enc
 | 0,l=>by simp
 | k+1,[]=>by simp
 | k+1,x::l=>by rw [List.flatMap_cons,Nat.succ_mul,Nat.add_comm,<-List.drop_drop,List.drop_left' (hsz x),Wq hsz k l];rfl
theorem acN {w:World} {B:Nat} {A:Option Addr} {rs:List gM} (h:Rd w B 2 A (rs.length-1) (((rs.flatMap gM.cells).drop (1*2)).take ((rs.length-1)*2))):Rd w B 2 A (rs.length-1) ((rs.drop 1).flatMap gM.cells):=by
 rw [Wq (enc:=gM.cells) (sz:=2) (λ_=>rfl),List.take_of_length_le (by rw [gX (sz:=2) (λ_=>rfl),List.length_drop];exact Nat.le_refl _)] at h;exact h
theorem KO {B g k c1 c2:Nat} {w0 w:World} {fs:List Fact} {A1 A2:Option Addr} {rs:List gM} {ls:List Ls} {W:kE} {ep nx gv kd id bd he hn:Int} (S:St B w0 w (.blk g (dw ep nx gv (.slice A1 rs.length c1) (.slice A2 ls.length c2) W) 91:: .own 62 2 (.slice A1 rs.length c1) rs.length ((rs).flatMap gM.cells):: .own 64 4 (.slice A2 ls.length c2) ls.length ((ls).flatMap Ls.cells)::fs)) (hk:k<4) (hlen:rs.length+ls.length<=500) (hnx:0<=nx/\nx<=1073741824) (hgv:0<=gv/\gv<=1073741824) (dQ:0<=ep/\ep<=1048576):
    Calls Tryz.prog 29 #[pV g 0,.agg #[iV kd,iV ((k:Nat):Int),iV id,iV bd,iV he,iV hn]] w (CV B w0 g fs (LA ⟨ep,nx,gv,rs,ls,W⟩)):=by
 refine gy 80 Tryz.func29 ?_;refine cw [0,1] ?_;refine zN 2 ?_;refine iC S ?_;intro b1 w2 S3;refine fO S3 rE ?_;intro b4 w5 S6;refine zN 11 ?_;refine vv (ah rfl rfl (av Tryz.underlying39 rfl (St.cl 2 S6 rfl oK))) ?_;refine zQ ?_;by_cases h1:rs.length=0
 ·refine zN 7 ?_;refine vv (v:= .agg #[iV 10,iV 0,iV 0,iV 0]) fT ?_;refine sa 0 S6 bQ ?_;intro w7 S8;refine zN 7 ?_;have S9:=S8.aT [1,0];have pI:=S9.bD 1 rfl;have qI:=pI.bD 2 rfl;rw [acH h1];refine ⟨rfl,A1,c1,A2,c2,?_⟩;dsimp only;exact qI
 refine zN 11 ?_;refine vv (ah rfl rfl (av Tryz.underlying3 rfl (St.cl 2 S6 rfl zq))) ?_;by_cases h2:gv=1073741824
 ·refine zN 7 ?_;refine vv (v:= .agg #[iV 14,iV 0,iV 0,iV 0]) fT ?_;refine sa 0 S6 bQ ?_;intro XW wX;refine zN 7 ?_;have jY:=wX.aT [1,0];have gZ:=jY.bD 1 rfl;have lV:=gZ.bD 2 rfl;rw [acI h1 h2];refine ⟨rfl,A1,c1,A2,c2,?_⟩;dsimp only;exact lV
 refine zN 9 ?_;have jZ:=S6.drew;refine fq 21 20 jZ [] ?_;iterate 4 refine gK ?_
 refine gk (v:=iV ep) 4 rfl jZ (λ_ EG=>(ah rfl rfl (av Tryz.underlying3 rfl (St.cl 2 EG rfl wS)))) ?_;iterate 4 refine gK ?_
 refine gk (v:=iV gv) 9 rfl jZ (λ_ awG=>(ah rfl rfl (av Tryz.underlying3 rfl (St.cl 2 awG rfl zq)))) ?_;refine gk (v:= .agg #[iV ep,iV gv]) 10 rfl jZ (λ_ _=>fT) ?_;iterate 4 refine gK ?_
 refine gk (v:= .slice A1 rs.length c1) 15 rfl jZ (λ_ ajv=>(ah rfl rfl (av Tryz.underlying39 rfl (St.cl 2 ajv rfl oK)))) ?_;obtain ⟨b34,o35,rfl⟩:=Rd.addr (St.ord 3 jZ rfl) (by omega);obtain ⟨Jl,aok⟩:=Ho 0 (St.ord 3 jZ rfl) (by omega);refine gk 16 rfl jZ (λ_ _=>jX 0) ?_;refine gk (v:= .agg #[iV Jl.no,iV Jl.body]) 17 rfl jZ (λ_ awH=>(ah rfl rfl (aA (cs:=gM.cells Jl) Tryz.underlying62 rfl DI rfl (Rd.uY (St.ord 3 awH rfl) (λ_ _ h=>bC (enc:=gM.cells) (sz:=2) (λ_=>rfl) aok h))))) ?_;refine gk (v:= .agg #[iV ep,iV gv,iV Jl.no,iV Jl.body]) 18 rfl jZ (λ_ _=>fT) ?_;refine eH (m:=1) (r:=19) (by kernel_rfl) ?_;refine lK (i:=19) rfl rfl (V:=λb=>pV b 0) (row:= #[iV 0,iV 0,iV 0,iV 0]) (t:=64) jZ (wn rfl) rfl rfl (iD rfl (Tryz.zeroValue64 _) rfl) ?_;intro b41 R4 rX;refine gK ?_;refine eG (by kernel_rfl) rfl rfl rfl ?_;refine sa 0 rX F7 ?_;intro NV nI;refine zQ ?_;refine iK ?_;refine zN 8 ?_;refine vv (ah rfl rfl (av Tryz.underlying39 rfl (St.cl 3 nI rfl oK))) ?_;have hcp:=dU (nI.own 4 rfl);obtain ⟨A46,awI,awJ,awK⟩:=zO (P:=Tryz.prog) (t:=39) (s:=2) (A:=(aD b34 o35)) (n:=rs.length) (c:=c1) (lo:=some (iV 1)) (hi:=none) (mx:=none) (l:=1) (k:=rs.length) (q:=c1) Tryz.underlying39 DI (ad7 1 rfl (by omega)) (by omega) (Nat.le_refl _) (by omega);refine vv (v:= .slice A46 (rs.length-1) (c1-1)) (jI rfl rfl (iX rfl) ng ng (awI _)) ?_;have wm:=nI.seal 4 rfl (acN (awJ _ _ _ (St.ord 4 nI rfl))) (λa h=>awK a h);refine zN 3 ?_;refine jk 3 wm NM ?_ (hs:=by exact Gx);intro XY nT;refine zN 3 ?_;have wo:=nT.drew;refine fq 13 9 wo [5] ?_;iterate 5 refine gK ?_
 refine gk (v:= .slice A2 ls.length c2) 5 rfl (St.del 5 wo) (λ_ OP=>(ah rfl rfl (av Tryz.underlying40 rfl (St.cl 3 OP rfl rF)))) ?_;refine gK ?_;refine eH (m:=5) (r:=7) (by kernel_rfl) ?_;refine lK (i:=7) rfl rfl (V:=λb=> .slice (aD b 0) 1 1) (row:= #[iV ep,iV gv,iV Jl.no,iV Jl.body]) (t:=64) wo (wn rfl) rfl rfl (aV (vs:=[(0,.agg #[iV ep,iV gv,iV Jl.no,iV Jl.body])]) rfl ⟨rfl,rfl,trivial⟩ (by kernel_rfl)) ?_;intro b61 Ws u6;refine gK ?_;refine eH (m:=4) (r:=8) (by kernel_rfl) ?_;refine kJ (i:=8) rfl rfl (news:=[iV ep,iV gv,iV Jl.no,iV Jl.body]) (xs':=(ls++[(⟨ep,gv,Jl⟩:Ls)]).flatMap Ls.cells) 6 u6 (wn rfl) rfl rfl rfl rfl rfl rfl (St.lC (xs:=[iV ep,iV gv,iV Jl.no,iV Jl.body]) 0 u6 rfl rfl rfl) Tryz.underlying40 aa5 rfl (by decide) (bL rfl) (by simp only [maxLen];omega) (by omega) (iO (enc:=Ls.cells) rfl rfl) ?_;intro A64 c65 R6 aFC aFD sI;refine gK ?_;refine eG (by kernel_rfl) rfl rfl rfl ?_;refine zN 3 ?_;refine jk 4 sI NP ?_ (hs:=by exact Gy);intro XZ rz;refine zQ ?_;refine iK ?_;refine zN 7 ?_;refine vv (ah rfl rfl (av Tryz.underlying3 rfl (St.cl 4 rz rfl zq))) ?_;refine vv (v:=iV (gv+1)) jg ?_;refine zN 3 ?_;refine jk 4 rz mU ?_ (hs:=by exact Wn);intro w72 rY;refine zN 5 ?_;refine vv (ah rfl rfl (aA (cs:=[iV ep,iV gv]) Tryz.underlying53 rfl SF rfl (St.rg 1 rY rfl (je (x:=0) (m:=2) rfl)))) ?_;refine zN 3 ?_;refine vv (v:= .agg #[iV 0,iV ep,iV gv,iV Jl.body]) fT ?_;refine sa 2 rY bQ ?_;intro w74 EC;refine zN 5 ?_;have Hu:=EC.aT [3,2,1,0];have DW:=Hu.bD 2 rfl;have hl1:(rs.drop 1).length=rs.length-1:=by simp
 have hl2:(ls++[(⟨ep,gv,Jl⟩:Ls)]).length=ls.length+1:=by simp
 rw [amu aok h2];refine ⟨rfl,A46,(c1-1),A64,c65,?_⟩;dsimp only;rw [hl1,hl2];exact DW
section
variable {P:Program} {N:Nat} {l l':Slots} {w w' w0:World} {ops:Array Oper} {o:Oper} {rest:List Oper} {Q:Exit->Act->World->Prop} {d B:Nat} {v p:Value} {fs fs':List Fact} {b m f:Nat} {row row' cs:Array Value} {t ty:TypeId} {x y:Operand}
theorem saq (i:Nat) (S:St B w0 w fs) (hz:(P.info? ty).map (·.size)=some m) (h: ∀ w',St B w0 w' fs'->wL P N ops Q rest l w') (hw:o.guard=none:=by exact rfl) (hd:o.dst=none:=by exact rfl) (ho:o.op= .store ty x y:=by exact rfl)
  (hx:ev l x=some (.pointer (some ⟨b,0,none⟩)):=by exact rfl) (hy:ev l y=some v:=by exact rfl) (hi:fs[i]? =some (.blk b row t):=by exact rfl) (hv:v.cells=cs:=by exact rfl) (hm:cs.size=m:=by exact rfl)
  (h1: ∀ u∈cs.toList,u.oneCell'=true:=by exact Iq rfl rfl) (hr:Nat.ble m row.size=true:=by exact rfl) (hs:row.size=cs.size:=by exact rfl) (hf:iB (.blk b cs t) fs i fs':=by repeat' first | exact iB.z | apply iB.s):wL P N ops Q (o::rest) l w:=
 zf i S (wn hw) hd ho hx hy hi hv hz hm h1 (by rw [Nat.zero_add];exact Nat.le_of_ble_eq_true hr) (mo hs) hf.eq h
theorem Wt {C:World->Prop} {n:Nat} {listed listed':Array Bool} (j:Nat) (hi':ops[j]? =some o) (i:Nat) (S:St B w0 w fs) (hz:(P.info? ty).map (·.size)=some m) (h: ∀ w',St B w0 w' fs'->C w'/\wA P N ops Q C n listed' l w') (hl:listed.setIfInBounds j true=listed':=by exact rfl)
  (hw:o.guard=none:=by exact rfl) (hd:o.dst=none:=by exact rfl) (ho:o.op= .store ty x y:=by exact rfl) (hx:ev l x=some (.pointer (some ⟨b,0,none⟩)):=by exact rfl) (hy:ev l y=some v:=by exact rfl) (hi:fs[i]? =some (.blk b row t):=by exact rfl) (hv:v.cells=cs:=by exact rfl)
  (hm:cs.size=m:=by exact rfl) (h1: ∀ u∈cs.toList,u.oneCell'=true:=by exact Iq rfl rfl) (hr:Nat.ble m row.size=true:=by exact rfl) (hs:row.size=cs.size:=by exact rfl) (hf:iB (.blk b cs t) fs i fs':=by repeat' first | exact iB.z | apply iB.s):wK P N ops Q C n j listed l w:=
 sG hi' hl i S (wn hw) hd ho hx hy hi hv hz hm h1 (by rw [Nat.zero_add];exact Nat.le_of_ble_eq_true hr) (mo hs) hf.eq h
end
end Go.Proofs.YtnhimdkpkmbhlaaGreatDoor
