import Derived.Test.YtnhimdkpkmbhlaaGreatDoorG03927
import Derived.Test.YtnhimdkpkmbhlaaGreatDoorG3bf7d
set_option maxRecDepth 100000
set_option maxHeartbeats 8000000
set_option linter.unusedSimpArgs false
set_option linter.unusedVariables false
namespace Go.Proofs.YtnhimdkpkmbhlaaGreatDoor
open ChangeShapes WideShapes RowKit
structure fD where
 no:Int
 body:Int
 deriving DecidableEq
structure Ls where
 dK:Int
 hno:Int
 msg:fD
 deriving DecidableEq
structure kK where
 a:lu
 b:lu
 c:lu
 d:lu
 deriving DecidableEq
structure Qd where
 ep:Int
 nx:Int
 gv:Int
 ready:List fD
 aF:List Ls
 ws:kK
 deriving DecidableEq
def fD.cells (m:fD):List Value:=[iV m.no,iV m.body]
def Ls.cells (x:Ls):List Value:=[iV x.dK,iV x.hno,iV x.msg.no,iV x.msg.body]
def kK.cells (x:kK):List Value:=x.a.cells++(x.b.cells++(x.c.cells++x.d.cells))
def kK.at (x:kK) (p:Nat):lu:=if p=0 then x.a else if p=1 then x.b else if p=2 then x.c else x.d
def kK.put (x:kK) (p:Nat) (y:lu):kK:=if p=0 then { x with a:=y } else if p=1 then { x with b:=y } else if p=2 then { x with c:=y } else { x with d:=y }
theorem kK.len (x:kK):x.cells.length=36:=rfl
theorem lu.len (x:lu):x.cells.length=9:=rfl
def bO (e n g:Int) (r l:Value) (W:kK):Array Value:=(iV e::iV n::iV g::r::l::W.cells).toArray
def fI:kK:=⟨Bl,Bl,Bl,Bl⟩
section
variable {e n g:Int} {r l:Value} {W:kK}
theorem yj:(bO e n g r l W).size=41:=rfl
theorem yL:(bO e n g r l W)[0]? =some (iV e):=rfl
theorem Bw:(bO e n g r l W)[1]? =some (iV n):=rfl
theorem Bz:(bO e n g r l W)[2]? =some (iV g):=rfl
theorem qm:(bO e n g r l W)[3]? =some r:=rfl
theorem ko:(bO e n g r l W)[4]? =some l:=rfl
theorem akW: ∀ (j:Nat) (u:Value),W.cells[j]? =some u->(bO e n g r l W)[5+j]? =some u:=kW (m:=36) rfl
theorem akX: ∀ (j:Nat) (u:Value),(W.at 0).cells[j]? =some u->(bO e n g r l W)[5+j]? =some u:=kW (m:=9) rfl
theorem akY: ∀ (j:Nat) (u:Value),(W.at 1).cells[j]? =some u->(bO e n g r l W)[14+j]? =some u:=kW (m:=9) rfl
theorem akZ: ∀ (j:Nat) (u:Value),(W.at 2).cells[j]? =some u->(bO e n g r l W)[23+j]? =some u:=kW (m:=9) rfl
theorem ak0: ∀ (j:Nat) (u:Value),(W.at 3).cells[j]? =some u->(bO e n g r l W)[32+j]? =some u:=kW (m:=9) rfl
theorem ak1 {z:Int}:dG (bO e n g r l W) 0 [iV z]=bO z n g r l W:=rfl
theorem ak2 {z:Int}:dG (bO e n g r l W) 1 [iV z]=bO e z g r l W:=rfl
theorem aay {z:Int}:dG (bO e n g r l W) 2 [iV z]=bO e n z r l W:=rfl
theorem JR {z:Value}:dG (bO e n g r l W) 3 [z]=bO e n g z l W:=rfl
theorem JU {z:Value}:dG (bO e n g r l W) 4 [z]=bO e n g r z W:=rfl
theorem ak3 {x:lu}:dG (bO e n g r l W) 5 x.cells=bO e n g r l (W.put 0 x):=by
 apply Array.toList_inj.1;rw [iq _ _ _ (by rw [yj,lu.len];omega)];rfl
theorem ak4 {x:lu}:dG (bO e n g r l W) 14 x.cells=bO e n g r l (W.put 1 x):=by
 apply Array.toList_inj.1;rw [iq _ _ _ (by rw [yj,lu.len];omega)];rfl
theorem ak5 {x:lu}:dG (bO e n g r l W) 23 x.cells=bO e n g r l (W.put 2 x):=by
 apply Array.toList_inj.1;rw [iq _ _ _ (by rw [yj,lu.len];omega)];rfl
theorem ak6 {x:lu}:dG (bO e n g r l W) 32 x.cells=bO e n g r l (W.put 3 x):=by
 apply Array.toList_inj.1;rw [iq _ _ _ (by rw [yj,lu.len];omega)];rfl
theorem JV (x:lu): ∀ u∈x.cells,u.oneCell'=true:=bX rfl
theorem agF (x:kK): ∀ u∈x.cells,u.oneCell'=true:=bX rfl
theorem tq (hr:r.oneCell'=true) (hl:l.oneCell'=true): ∀ u∈(bO e n g r l W).toList,u.oneCell'=true:=by
 intro u hu;simp only [bO,List.mem_cons] at hu
 rcases hu with rfl | rfl | rfl | rfl | rfl | hu
 ·rfl
 ·rfl
 ·rfl
 ·exact hr
 ·exact hl
 exact agF W u hu
end
def XV (w:World) (k:Int) (e:Ending) (w':World):Prop:=e= .returned (iV k)/\Below w.heap.size w w'
def Gi (w:World) (b:Bool) (e:Ending) (w':World):Prop:=e= .returned (.bool b)/\Below w.heap.size w w'
def qI (nx:Int) (m:fD):Bool:=decide (0<=m.no/\m.no<nx/\0<=m.body/\m.body<=1000000)
theorem xS {nx:Int} {m:fD} (h:qI nx m=true):0<=m.no/\m.no<nx/\0<=m.body/\m.body<=1000000:=of_decide_eq_true h
def kr (nx:Int):Int->List fD->Bool
 | _,[]=>true
 | p,m::r=>(qI nx m&&decide (p<m.no))&&kr nx m.no r
def JW (ep nx gv p:Int) (x:Ls):Bool:=qI nx x.msg&&decide (x.dK=ep/\p<x.hno/\x.hno<gv)
def kR (ep nx gv:Int):Int->List Ls->Bool
 | _,[]=>true
 | p,x::r=>JW ep nx gv p x&&kR ep nx gv x.hno r
def jE (rs:List fD) (ls:List Ls):List Int:=rs.map (·.no)++ls.map (·.msg.no)
def TG (ep nx gv:Int) (rs:List fD) (ls:List Ls):Prop:=0<=ep/\ep<=1048576/\0<=nx/\nx<=1073741824/\0<=gv/\gv<=1073741824/\rs.length+ls.length<=500
def Ag (W:kK):Prop:= ∀ j,j<4->dP (W.at j)=0
open Classical in
noncomputable def gy (ep nx gv:Int) (rs:List fD) (ls:List Ls) (W:kK):Int:=
 if ¬ TG ep nx gv rs ls then 6 else if ¬ Ag W then 6 else if kr nx (-1) rs=true/\kR ep nx gv (-1) ls=true/\(jE rs ls).Nodup then 0 else 6
section
variable {ep nx gv p:Int} {rs:List fD} {ls:List Ls} {W:kK}
theorem C9 (h: ¬ (0<=ep/\ep<=1048576/\0<=nx/\nx<=1073741824/\0<=gv/\gv<=1073741824/\rs.length+ls.length<=500)):gy ep nx gv rs ls W=6:=if_pos h
theorem Ah (h: ¬ (Ag W/\kr nx (-1) rs=true/\kR ep nx gv (-1) ls=true/\(jE rs ls).Nodup)):gy ep nx gv rs ls W=6:=by
 unfold gy
 split
 ·rfl
 split
 ·rfl
 rename_i h1 h2
 rw [if_neg (λh3=>h ⟨Classical.not_not.1 h2,h3⟩)]
theorem aq2 {j:Nat} (hj:j<4) (h:dP (W.at j)≠0):gy ep nx gv rs ls W=6:=Ah λh1=>h (h1.1 j hj)
theorem awS (h0:TG ep nx gv rs ls) (h1:Ag W) (h2:kr nx (-1) rs=true) (h3:kR ep nx gv (-1) ls=true) (h4:(jE rs ls).Nodup):gy ep nx gv rs ls W=0:=by
 unfold gy;rw [if_neg (λh=>h h0),if_neg (λh=>h h1),if_pos ⟨h2,h3,h4⟩]
theorem Le {k:Nat} {m:fD} (h:rs[k]? =some m):kr nx p (rs.drop k)=((qI nx m&&decide (p<m.no))&&kr nx m.no (rs.drop (k+1))):=by
 obtain ⟨hk,hm⟩:=List.getElem?_eq_some_iff.1 h;rw [List.drop_eq_getElem_cons hk,hm];rfl
theorem Et {k:Nat} {x:Ls} (h:ls[k]? =some x):kR ep nx gv p (ls.drop k)=(JW ep nx gv p x&&kR ep nx gv x.hno (ls.drop (k+1))):=by
 obtain ⟨hk,hm⟩:=List.getElem?_eq_some_iff.1 h;rw [List.drop_eq_getElem_cons hk,hm];rfl
theorem Lf {α β:Type} {f:α->β} {l:List α} {k:Nat} {x:α} (h:l[k]? =some x):(l.take k).map f++[f x]=(l.take (k+1)).map f:=by
 rw [List.take_add_one,h];simp
theorem ak7 (x:lu):dP x=0\/dP x=6:=by unfold dP;split<;>simp
end
theorem VY (W:kK) (w:World):(Instr.index 44 (.agg W.cells.toArray) (iV 0)).run Tryz.prog w= .ok (.agg (W.at 0).cells.toArray) w:=by kernel_rfl
theorem VZ (W:kK) (w:World):(Instr.index 44 (.agg W.cells.toArray) (iV 1)).run Tryz.prog w= .ok (.agg (W.at 1).cells.toArray) w:=by kernel_rfl
theorem V3 (W:kK) (w:World):(Instr.index 44 (.agg W.cells.toArray) (iV 2)).run Tryz.prog w= .ok (.agg (W.at 2).cells.toArray) w:=by kernel_rfl
theorem V4 (W:kK) (w:World):(Instr.index 44 (.agg W.cells.toArray) (iV 3)).run Tryz.prog w= .ok (.agg (W.at 3).cells.toArray) w:=by kernel_rfl
theorem Y8 (W:kK) (k:Nat) (hk:k<4) (w:World):(Instr.index 44 (.agg W.cells.toArray) (iV k)).run Tryz.prog w= .ok (.agg (W.at k).cells.toArray) w:=by
 have h:k=0\/k=1\/k=2\/k=3:=by omega
 rcases h with rfl | rfl | rfl | rfl
 ·exact VY W w
 ·exact VZ W w
 ·exact V3 W w
 exact V4 W w
theorem ak8 {e n g:Int} {r l:Value} {W:kK} {k:Nat} (hk:k<4): ∀ (j:Nat) (u:Value),(W.at k).cells[j]? =some u->(bO e n g r l W)[5+k*9+j]? =some u:=by
 have h:k=0\/k=1\/k=2\/k=3:=by omega
 rcases h with rfl | rfl | rfl | rfl
 ·exact akX
 ·exact akY
 ·exact akZ
 exact ak0
theorem iJ {α:Type} {enc:α->List Value} {l l':List α} {x:α} {cs:List Value} (h:l++[x]=l') (he:enc x=cs):l.flatMap enc++cs=l'.flatMap enc:=by
 subst h;subst he;simp
structure iT where
 code:Int
 dK:Int
 hno:Int
 body:Int
 deriving DecidableEq
def eH:iT:=⟨0,0,0,0⟩
def nN (k:Int):iT:=⟨k,0,0,0⟩
def iT.cells (a:iT):List Value:=[iV a.code,iV a.dK,iV a.hno,iV a.body]
def iT.val (a:iT):Value:= .agg #[iV a.code,iV a.dK,iV a.hno,iV a.body]
def yt (Q:Qd) (k:Nat) (id bd:Int):Qd×iT×Bool:=
 if (ji (Q.ws.at k) id).2.2≠0 then (Q,nN (ji (Q.ws.at k) id).2.2,false)
 else if (ji (Q.ws.at k) id).2.1=false then (Q,eH,false)
 else if Q.ready.length+Q.aF.length=500\/Q.nx=1073741824 then (Q,nN 14,false)
 else (⟨Q.ep,Q.nx+1,Q.gv,Q.ready++[⟨Q.nx,bd⟩],Q.aF,Q.ws.put k (ji (Q.ws.at k) id).1⟩,eH,true)
def pz (Q:Qd):Qd×iT×Bool:=match Q.ready with
 | []=>(Q,nN 10,false)
 | m::rest=>if Q.gv=1073741824 then (Q,nN 14,false) else (⟨Q.ep,Q.nx,Q.gv+1,rest,Q.aF++[⟨Q.ep,Q.gv,m⟩],Q.ws⟩,⟨0,Q.ep,Q.gv,m.body⟩,true)
def za (Q:Qd) (he hn:Int):Qd×iT×Bool:=
 if he≠Q.ep then (Q,nN 11,false)
 else if (Q.aF.filter λx=>decide (x.hno≠hn)).length=Q.aF.length then (Q,nN 7,false)
 else (⟨Q.ep,Q.nx,Q.gv,Q.ready,Q.aF.filter λx=>decide (x.hno≠hn),Q.ws⟩,eH,true)
def ku (m:fD):List fD->List fD
 | []=>[m]
 | x::l=>if m.no<x.no then m::x::l else x::ku m l
def Dn (Q:Qd):Qd×iT×Bool:=
 if Q.ep=1048576 then (Q,nN 14,false)
 else (⟨Q.ep+1,Q.nx,0,Q.aF.foldl (λl x=>ku x.msg l) Q.ready,[],Q.ws⟩,eH,true)
section
variable {ep nx gv bd id he hn:Int} {rs:List fD} {ls:List Ls} {W:kK} {k:Nat}
theorem ak9 (h: ¬ (ji (W.at k) id).2.2=0):yt ⟨ep,nx,gv,rs,ls,W⟩ k id bd=(⟨ep,nx,gv,rs,ls,W⟩,nN (ji (W.at k) id).2.2,false):=if_pos h
theorem ala (h:(ji (W.at k) id).2.2=0) (h1:(ji (W.at k) id).2.1=false):yt ⟨ep,nx,gv,rs,ls,W⟩ k id bd=(⟨ep,nx,gv,rs,ls,W⟩,eH,false):=by
 unfold yt;rw [if_neg (λh2=>h2 h),if_pos h1]
theorem Uu (h:(ji (W.at k) id).2.2=0) (h1:(ji (W.at k) id).2.1=true) (h2:rs.length+ls.length=500\/nx=1073741824):yt ⟨ep,nx,gv,rs,ls,W⟩ k id bd=(⟨ep,nx,gv,rs,ls,W⟩,nN 14,false):=by
 unfold yt;rw [if_neg (λh2=>h2 h),if_neg (λh3=>by rw [h1] at h3;cases h3),if_pos h2]
theorem aq3 (h:(ji (W.at k) id).2.2=0) (h1:(ji (W.at k) id).2.1=true) (h2: ¬ (rs.length+ls.length=500\/nx=1073741824)):yt ⟨ep,nx,gv,rs,ls,W⟩ k id bd=(⟨ep,nx+1,gv,rs++[⟨nx,bd⟩],ls,W.put k (ji (W.at k) id).1⟩,eH,true):=by
 unfold yt;rw [if_neg (λh2=>h2 h),if_neg (λh3=>by rw [h1] at h3;cases h3),if_neg h2]
theorem agG (h:rs.length=0):pz ⟨ep,nx,gv,rs,ls,W⟩=(⟨ep,nx,gv,rs,ls,W⟩,nN 10,false):=by
 cases rs with
 | nil=>rfl
 | cons m r=>simp at h
theorem agH (h: ¬ rs.length=0) (h1:gv=1073741824):pz ⟨ep,nx,gv,rs,ls,W⟩=(⟨ep,nx,gv,rs,ls,W⟩,nN 14,false):=by
 cases rs with
 | nil=>simp at h
 | cons m r=>exact if_pos h1
theorem aq4 {m:fD} (h:rs[0]? =some m) (h1: ¬ gv=1073741824):pz ⟨ep,nx,gv,rs,ls,W⟩=(⟨ep,nx,gv+1,rs.drop 1,ls++[⟨ep,gv,m⟩],W⟩,⟨0,ep,gv,m.body⟩,true):=by
 cases rs with
 | nil=>simp at h
 | cons m r=>
  simp at h;subst h;exact if_neg h1
theorem abI (h: ¬ he=ep):za ⟨ep,nx,gv,rs,ls,W⟩ he hn=(⟨ep,nx,gv,rs,ls,W⟩,nN 11,false):=if_pos h
theorem agI (h:he=ep) (h1:(ls.filter λx=>decide (x.hno≠hn)).length=ls.length):za ⟨ep,nx,gv,rs,ls,W⟩ he hn=(⟨ep,nx,gv,rs,ls,W⟩,nN 7,false):=by
 unfold za;rw [if_neg (λh2=>h2 h),if_pos h1]
theorem aq5 (h:he=ep) (h1: ¬ (ls.filter λx=>decide (x.hno≠hn)).length=ls.length):za ⟨ep,nx,gv,rs,ls,W⟩ he hn=(⟨ep,nx,gv,rs,ls.filter λx=>decide (x.hno≠hn),W⟩,eH,true):=by
 unfold za;rw [if_neg (λh2=>h2 h),if_neg h1]
theorem agJ (h:ep=1048576):Dn ⟨ep,nx,gv,rs,ls,W⟩=(⟨ep,nx,gv,rs,ls,W⟩,nN 14,false):=if_pos h
theorem aq6 (h: ¬ ep=1048576):Dn ⟨ep,nx,gv,rs,ls,W⟩=(⟨ep+1,nx,0,ls.foldl (λl x=>ku x.msg l) rs,[],W⟩,eH,true):=if_neg h
end
theorem alb {e n g:Int} {r l:Value} {W:kK} {x:lu} {k:Nat} (hk:k<4):dG (bO e n g r l W) (5+k*9) x.cells=bO e n g r l (W.put k x):=by
 match k,hk with
 | 0,_=>exact ak3
 | 1,_=>exact ak4
 | 2,_=>exact ak5
 | 3,_=>exact ak6
def Fe (B:Nat) (w0:World) (g:Nat) (fs:List Fact) (r:Qd×iT×Bool) (e:Ending) (w':World):Prop:=
 e= .returned (.tuple #[r.2.1.val,.bool r.2.2])/\ ∃ A1 c1 A2 c2,St B w0 w' (.blk g (bO r.1.ep r.1.nx r.1.gv (.slice A1 r.1.ready.length c1) (.slice A2 r.1.aF.length c2) r.1.ws) 91:: .bI 2 A1 r.1.ready.length (r.1.ready.flatMap fD.cells):: .bI 4 A2 r.1.aF.length (r.1.aF.flatMap Ls.cells)::fs)
instance:Ad fD where
 size:=2
 ints m:=[m.no,m.body]
 of xs:=⟨xs.getD 0 0,xs.getD 1 0⟩
 pos:=by decide
 len _:=rfl
 inv xs h:=by
  match xs,h with
  | [a,b],_=>rfl
instance:Ad Ls where
 size:=4
 ints m:=[m.dK,m.hno,m.msg.no,m.msg.body]
 of xs:=⟨xs.getD 0 0,xs.getD 1 0,⟨xs.getD 2 0,xs.getD 3 0⟩⟩
 pos:=by decide
 len _:=rfl
 inv xs h:=by
  match xs,h with
  | [a,b,c,d],_=>rfl
theorem agK (l:List fD): ∀ u∈l.flatMap fD.cells,u.oneCell'=true:=F5 l
theorem aaz (l:List Ls): ∀ u∈l.flatMap Ls.cells,u.oneCell'=true:=F5 l
section
variable {P:Program} {w:World} {t e:TypeId} {xo yo:Operand}
theorem wE {A:Option Addr} {n c:Nat} (h:P.underlying t=some (.slice e)):(do eqGuard .eql t xo yo (.slice A n c) (.slice none 0 0);binOp .eql t (.slice A n c) (.slice none 0 0):Sem Value).run P w= .ok (.bool A.isNone) w:=by
 rw [Sem.run_bind,show (eqGuard .eql t xo yo (.slice A n c) (.slice none 0 0)).run P w= .ok () w from rfl];exact Lib.run_eql_slice_nil w t e A n c 0 0 h
end
theorem JX {w:World} {B s n:Nat} {xs:List Value} (h:Rd w B s none n xs):n=0/\xs=[]:=by
 have h1:n=0:=by
  rcases Nat.eq_zero_or_pos n with h0 | h0
  ·exact h0
  obtain ⟨b,off,e,_⟩:=h.2 h0
  cases e
 subst h1;exact ⟨rfl,List.eq_nil_of_length_eq_zero (by have:=h.1;omega)⟩
theorem Sl (A:Option Addr) (n c:Nat) (l:List Value) (w:World) (h:Rd w w.heap.size 2 A n l) (hone: ∀ u∈l,u.oneCell'=true) (hc:n*16<=reachBytes):
    Calls Tryz.prog 26 #[.slice A n c] w (jF w 62 2 n l):=by
 unfold reachBytes at hc;have S:=(St.start w).bU h;refine gq 8 Tryz.func26 ?_;refine cw [0] ?_;refine zN 9 ?_
 cases A with
 | none=>
  obtain ⟨rfl,rfl⟩:=JX h;refine vv (v:= .bool true) (aR rfl rfl rfl (wE Tryz.underlying39)) ?_;refine zN 11 ?_;exact jF.of (Below.refl _ _) (jo _ _ _ _)
 | some a=>
  refine vv (v:= .bool false) (aR rfl rfl rfl (wE Tryz.underlying39)) ?_;refine zN 7 ?_;refine rF (V:=λb=> .slice (aD b 0) 0 0) (row:= #[]) (t:=62) (n:=0) (s:=2) (xs:=[]) S (wn rfl) rfl rfl (bg (vs:=[]) rfl trivial (by kernel_rfl)) (by simp) (Nat.zero_le _) rfl ?_;intro b1 w2 S3;refine zQ ?_;refine dw (news:=l) (xs':=l) 0 S3 (wn rfl) rfl rfl rfl rfl rfl rfl (St.rd 1 S3 rfl) Tryz.underlying39 WX rfl (by decide) hone (by simp only [maxLen];omega) (by omega) rfl ?_;intro A4 c5 w6 hc8 rH S7;refine zN 5 ?_;have qJ:=S7.aU [1];have ho:=qJ.own 0 rfl;simp only [Nat.zero_add] at ho⊢;exact jF.of qJ.low ho
theorem Sm (A:Option Addr) (n c:Nat) (l:List Value) (w:World) (h:Rd w w.heap.size 4 A n l) (hone: ∀ u∈l,u.oneCell'=true) (hc:n*32<=reachBytes):
    Calls Tryz.prog 27 #[.slice A n c] w (jF w 64 4 n l):=by
 unfold reachBytes at hc;have S:=(St.start w).bU h;refine gq 8 Tryz.func27 ?_;refine cw [0] ?_;refine zN 9 ?_
 cases A with
 | none=>
  obtain ⟨rfl,rfl⟩:=JX h;refine vv (v:= .bool true) (aR rfl rfl rfl (wE Tryz.underlying40)) ?_;refine zN 11 ?_;exact jF.of (Below.refl _ _) (jo _ _ _ _)
 | some a=>
  refine vv (v:= .bool false) (aR rfl rfl rfl (wE Tryz.underlying40)) ?_;refine zN 7 ?_;refine rF (V:=λb=> .slice (aD b 0) 0 0) (row:= #[]) (t:=64) (n:=0) (s:=4) (xs:=[]) S (wn rfl) rfl rfl (bg (vs:=[]) rfl trivial (by kernel_rfl)) (by simp) (Nat.zero_le _) rfl ?_;intro b1 w2 S3;refine zQ ?_;refine dw (news:=l) (xs':=l) 0 S3 (wn rfl) rfl rfl rfl rfl rfl rfl (St.rd 1 S3 rfl) Tryz.underlying40 ae1 rfl (by decide) hone (by simp only [maxLen];omega) (by omega) rfl ?_;intro A4 c5 w6 hc8 rH S7;refine zN 5 ?_;have qJ:=S7.aU [1];have ho:=qJ.own 0 rfl;simp only [Nat.zero_add] at ho⊢;exact jF.of qJ.low ho
theorem DJ (e nx g:Int) (r l:Value) (W:kK) (m:fD) (w:World):
    Calls Tryz.prog 40 #[.agg (bO e nx g (r) (l) W),.agg #[iV m.no,iV m.body]] w (Gi w (qI nx m)):=by
 have S:=St.start w;refine gq 25 Tryz.func40 ?_;refine cw [0,1] ?_;refine zN 2 ?_;refine iP S ?_;intro b1 w2 S3;refine iP S3 ?_;intro b4 w5 S6;refine zN 7 ?_;by_cases h7:0<=m.no
 ·refine zN 5 ?_;refine vg (aj rfl rfl (av Tryz.underlying3 rfl (St.cl 1 S6 rfl Bw))) ?_;by_cases h8:m.no<nx
  ·refine zN 5 ?_;by_cases h9:0<=m.body
   ·refine zN 5 ?_;by_cases h10:m.body<=1000000
    ·refine zN 7 ?_;refine ⟨?_,S6.low⟩;rw [show qI nx m=true from decide_eq_true ⟨‹_›,‹_›,‹_›,‹_›⟩];rfl
    refine zN 7 ?_;refine ⟨?_,S6.low⟩;rw [show qI nx m=false from decide_eq_false (λh=>absurd h.2.2.2 ‹_›)];rfl
   refine zN 12 ?_;refine ⟨?_,S6.low⟩;rw [show qI nx m=false from decide_eq_false (λh=>absurd h.2.2.1 ‹_›)];rfl
  refine zN 17 ?_;refine ⟨?_,S6.low⟩;rw [show qI nx m=false from decide_eq_false (λh=>absurd h.2.1 ‹_›)];rfl
 refine zN 23 ?_;refine ⟨?_,S6.low⟩;rw [show qI nx m=false from decide_eq_false (λh=>absurd h.1 ‹_›)];rfl
theorem OI {B g k c1 c2:Nat} {w0 w:World} {fs:List Fact} {A1 A2:Option Addr} {rs:List fD} {ls:List Ls} {W:kK} {ep nx gv kd id bd he hn:Int} (S:St B w0 w (.blk g (bO ep nx gv (.slice A1 rs.length c1) (.slice A2 ls.length c2) W) 91:: .own 62 2 (.slice A1 rs.length c1) rs.length ((rs).flatMap fD.cells):: .own 64 4 (.slice A2 ls.length c2) ls.length ((ls).flatMap Ls.cells)::fs)) (hk:k<4) (hlen:rs.length+ls.length<=500) (hnx:0<=nx/\nx<=1073741824) (hgv:0<=gv/\gv<=1073741824) (dK:0<=ep/\ep<=1048576):
    Calls Tryz.prog 28 #[pV g 0,.agg #[iV kd,iV ((k:Nat):Int),iV id,iV bd,iV he,iV hn]] w (Fe B w0 g fs (yt ⟨ep,nx,gv,rs,ls,W⟩ k id bd)):=by
 refine gq 94 Tryz.func28 ?_;refine cw [0,1] ?_;refine zN 2 ?_;refine iP S ?_;intro b1 w2 S3;refine fJ S3 oK ?_;intro b4 w5 S6;refine zN 3 ?_;refine mE (X:=Nat) (λxv=>[(0,pV g 0),(3,pV b1 0),(4,pV b4 0),(5,.bool false),(6,pV xv 0),(7,.bool ((ji (W.at k) id).2.1)),(8,iV ((ji (W.at k) id).2.2))]) (λxv wr=>St B w0 wr ((.blk xv (((ji (W.at k) id).1.cells).toArray) 43)::(.blk b4 #[iV 0,iV 0,iV 0,iV 0] 58)::(.blk b1 #[iV kd,iV ((k:Nat):Int),iV id,iV bd,iV he,iV hn] 55)::(.blk g (bO ep nx gv (.slice A1 rs.length c1) (.slice A2 ls.length c2) W) 91)::(.own 62 2 (.slice A1 rs.length c1) rs.length ((rs).flatMap fD.cells))::(.own 64 4 (.slice A2 ls.length c2) ls.length ((ls).flatMap Ls.cells))::fs)) ?_ ?_
 ·have S7:=S6.drew;refine aN 19 S7 [] ?_;refine aO 6 ?_;refine ak (v:=pV g (5+k*9)) 6 rfl S7 (λ_ _=>(aJ rfl rfl rfl (fE k Tryz.underlying44 Ga rfl hk))) ?_;refine ak (v:= .agg (((W.at k).cells).toArray)) 7 rfl S7 (λ_ an3=>(aj rfl rfl (aA (cs:=(W.at k).cells) Tryz.underlying43 rfl Ga rfl (St.rg 2 an3 rfl (ak8 hk))))) ?_;refine aO 2 ?_;refine gM (n:=8) (r:=10) (s:=15) (by kernel_rfl) ?_ ?_
  ·refine jw 10 rfl asK (I5 (W.at k) id _) ?_;rintro _ DK ⟨rfl,an4⟩;refine ⟨_,rfl,?_⟩;have jU:=S7.on an4;refine aO 5 ?_;refine aZ 15 ?_;refine lg 15 rfl jU an2 ?_;intro Uv KD pE;refine dn ?_;refine aZ 16 ?_;refine snA 16 rfl 0 pE Ga ?_ (h1:=JV _);intro Xa qR;refine aO 4 ?_;refine dB Uv ?_ ⟨rfl,rfl,rfl,rfl,rfl,rfl,rfl,trivial⟩;exact qR
  refine lg 15 rfl S7 an2 ?_;intro b32 w33 mg;refine dn ?_;refine aZ 10 ?_;refine jw 10 rfl asK (I5 (W.at k) id _) ?_;rintro _ w35 ⟨rfl,an5⟩;refine ⟨_,rfl,?_⟩;have nW:=mg.on an5;refine aO 5 ?_;refine aZ 16 ?_;refine snA 16 rfl 0 nW Ga ?_ (h1:=JV _);intro Uw qB;refine aO 4 ?_;refine dB b32 ?_ ⟨rfl,rfl,rfl,rfl,rfl,rfl,rfl,trivial⟩;exact qB
 rintro Da w47 rJ
 try dsimp only at rJ
 refine bq (l':=[(0,pV g 0),(3,pV b1 0),(4,pV b4 0),(5,.bool false),(6,pV Da 0),(7,.bool ((ji (W.at k) id).2.1)),(8,iV ((ji (W.at k) id).2.2))]) ⟨rfl,rfl,rfl,rfl,rfl,rfl,rfl,trivial⟩ (aH (EZ (aH (aC (vm ?_)))));by_cases h1:(ji (W.at k) id).2.2=0
 ·refine zN 8 ?_
  cases h2:(ji (W.at k) id).2.1
  ·refine zN 8 ?_;refine sa 1 rJ dh ?_;intro Xb rM;refine zN 7 ?_;have uq:=rM.aU [2,1,0];have kS:=uq.bK 1 rfl;have vS:=kS.bK 2 rfl;rw [ala h1 h2];refine ⟨rfl,A1,c1,A2,c2,?_⟩;dsimp only;exact vS
  refine zN 6 ?_;refine dR rJ mixed (by kernel_rfl) ?_;refine zN 4 ?_;refine uv (v:= .slice A1 rs.length c1) (λ_ aAR=>(aj rfl rfl (av Tryz.underlying39 rfl (St.cl 3 aAR rfl qm)))) ?_;refine zN 5 ?_;refine uv (v:= .slice A2 ls.length c2) (λ_ abJ=>(aj rfl rfl (av Tryz.underlying40 rfl (St.cl 3 abJ rfl ko)))) ?_;refine zQ ?_;refine uv (v:=iV ((rs.length+ls.length:Nat):Int)) (λ_ _=>gu) ?_;by_cases h3:rs.length+ls.length=500
  ·refine zN 10 ?_;refine fC λw71 AU=>?_;refine zN 4 ?_;refine vv (v:= .agg #[iV 14,iV 0,iV 0,iV 0]) gF ?_;refine sa 1 AU dh ?_;intro w73 P6;refine zN 7 ?_;have Hq:=P6.aU [2,1,0];have Hr:=Hq.bK 1 rfl;have DL:=Hr.bK 2 rfl;rw [Uu h1 h2 (.inl h3)];refine ⟨rfl,A1,c1,A2,c2,?_⟩;dsimp only;exact DL
  refine zN 6 ?_;refine ug (v:=iV nx) (λ_ aAS=>(aj rfl rfl (av Tryz.underlying3 rfl (St.cl 3 aAS rfl Bw)))) ?_;by_cases h4:nx=1073741824
  ·refine zN 3 ?_;refine fC λw88 KE=>?_;refine zN 4 ?_;refine vv (v:= .agg #[iV 14,iV 0,iV 0,iV 0]) gF ?_;refine sa 1 KE dh ?_;intro w90 KF;refine zN 7 ?_;have zP:=KF.aU [2,1,0];have BU:=zP.bK 1 rfl;have Gj:=BU.bK 2 rfl;rw [Uu h1 h2 (.inr h4)];refine ⟨rfl,A1,c1,A2,c2,?_⟩;dsimp only;exact Gj
  refine zN 3 ?_;refine fC λw98 S99=>?_;refine zN 6 ?_;have tX:=S99.drew;refine aN 9 tX [3] ?_;refine aO 7 ?_;refine ak (v:=pV g (5+k*9)) 7 rfl (St.del 3 tX) (λ_ _=>(aJ rfl rfl rfl (fE k Tryz.underlying44 Ga rfl hk))) ?_;refine aZ 8 ?_;refine uX (i:=8) rfl rfl (cs:=((ji (W.at k) id).1.cells).toArray) (row':=bO ep nx gv (.slice A1 rs.length c1) (.slice A2 ls.length c2) (W.put k (ji (W.at k) id).1)) (fs':=(.blk Da (((ji (W.at k) id).1.cells).toArray) 43)::(.blk b4 #[iV 0,iV 0,iV 0,iV 0] 58)::(.blk b1 #[iV kd,iV ((k:Nat):Int),iV id,iV bd,iV he,iV hn] 55)::(.blk g (bO ep nx gv (.slice A1 rs.length c1) (.slice A2 ls.length c2) (W.put k (ji (W.at k) id).1)) 91)::(.own 62 2 (.slice A1 rs.length c1) rs.length ((rs).flatMap fD.cells))::(.own 64 4 (.slice A2 ls.length c2) ls.length ((ls).flatMap Ls.cells))::fs) 3 tX (wn rfl) rfl rfl rfl rfl rfl rfl Ga rfl (JV _) (by rw [yj];omega) (alb hk) rfl ?_;intro abL rO;refine aO 2 ?_;refine zN 2 ?_;have ze:=rO.drew;refine fH 20 16 ze [4] ?_;iterate 5 refine gW ?_
  refine gk (v:= .slice A1 rs.length c1) 5 rfl (St.del 4 ze) (λ_ awT=>(aj rfl rfl (av Tryz.underlying39 rfl (St.cl 3 awT rfl qm)))) ?_;iterate 4 refine gW ?_
  refine gk (v:=iV nx) 10 rfl (St.del 4 ze) (λ_ awU=>(aj rfl rfl (av Tryz.underlying3 rfl (St.cl 3 awU rfl Bw)))) ?_;iterate 2 refine gW ?_
  refine gk (v:= .agg #[iV nx,iV bd]) 13 rfl (St.del 4 ze) (λ_ _=>gF) ?_;refine fq (m:=5) (r:=14) (by kernel_rfl) ?_;refine mF (i:=14) rfl rfl (V:=λb=> .slice (aD b 0) 1 1) (row:= #[iV nx,iV bd]) (t:=62) ze (wn rfl) rfl rfl (bg (vs:=[(0,.agg #[iV nx,iV bd])]) rfl ⟨rfl,rfl,trivial⟩ (by kernel_rfl)) ?_;intro aKj abM zf;refine gW ?_;refine fq (m:=4) (r:=15) (by kernel_rfl) ?_;refine lG (i:=15) rfl rfl (news:=[iV nx,iV bd]) (xs':=(rs++[(⟨nx,bd⟩:fD)]).flatMap fD.cells) 5 zf (wn rfl) rfl rfl rfl rfl rfl rfl (St.lM (xs:=[iV nx,iV bd]) 0 zf rfl rfl rfl) Tryz.underlying39 WX rfl (by decide) (bX rfl) (by simp only [maxLen];omega) (by omega) (iJ (enc:=fD.cells) rfl rfl) ?_;intro aAT c130 abN aG5 aG6 xg;refine gW ?_;refine eP (by kernel_rfl) rfl rfl rfl ?_;refine zN 3 ?_;refine jL 4 xg Sg ?_ (hs:=by exact JR);intro an6 BZ;refine zQ ?_;refine jk ?_;refine zN 7 ?_;refine vv (aj rfl rfl (av Tryz.underlying3 rfl (St.cl 4 BZ rfl Bw))) ?_;refine vv (v:=iV (nx+1)) gu ?_;refine zN 3 ?_;refine jL 4 BZ nM ?_ (hs:=by exact ak2);intro air Ca;refine zN 5 ?_;refine sa 2 Ca dh ?_;intro aAU Ht;refine zN 5 ?_;have an7:=Ht.aU [3,2,1,0];have Fg:=an7.bK 1 rfl;have XW:=Fg.bK 2 rfl;rw [aq3 h1 h2 (λh=>h.elim h3 h4)];have hln:=(by simp:(rs++[(⟨nx,bd⟩:fD)]).length=rs.length+1);refine ⟨rfl,aAT,c130,A2,c2,?_⟩;dsimp only;rw [hln];exact XW
 refine zN 8 ?_;refine vv (v:= .agg #[iV ((ji (W.at k) id).2.2),iV 0,iV 0,iV 0]) gF ?_;refine sa 1 rJ dh ?_;intro ais Na;refine zN 7 ?_;have TH:=Na.aU [2,1,0];have TI:=TH.bK 1 rfl;have zh:=TI.bK 2 rfl;rw [ak9 h1];refine ⟨rfl,A1,c1,A2,c2,?_⟩;dsimp only;exact zh
theorem dW {w:World} {base:Nat} {e:TypeId} {size:Nat} {A:Option Addr} {n c:Nat} {xs:List Value} (h:w.ownsRow base e size (.slice A n c) n xs):n<=c/\c<=maxLen:=by
 obtain ⟨A',c',e1,h1,h2⟩:=mP h
 cases e1;exact ⟨h1,h2⟩
theorem aaC {α:Type} {enc:α->List Value} {sz:Nat} (hsz: ∀ x,(enc x).length=sz): ∀ (k:Nat) (l:List α),(l.flatMap enc).drop (k*sz)=(l.drop k).flatMap enc
 | 0,l=>by simp
 | k+1,[]=>by simp
 | k+1,x::l=>by rw [List.flatMap_cons,Nat.succ_mul,Nat.add_comm,<-List.drop_drop,List.drop_left' (hsz x),aaC hsz k l];rfl
theorem agL {w:World} {B:Nat} {A:Option Addr} {rs:List fD} (h:Rd w B 2 A (rs.length-1) (((rs.flatMap fD.cells).drop (1*2)).take ((rs.length-1)*2))):Rd w B 2 A (rs.length-1) ((rs.drop 1).flatMap fD.cells):=by
 rw [aaC (enc:=fD.cells) (sz:=2) (λ_=>rfl),List.take_of_length_le (by rw [gQ (sz:=2) (λ_=>rfl),List.length_drop];exact Nat.le_refl _)] at h;exact h
theorem OJ {B g k c1 c2:Nat} {w0 w:World} {fs:List Fact} {A1 A2:Option Addr} {rs:List fD} {ls:List Ls} {W:kK} {ep nx gv kd id bd he hn:Int} (S:St B w0 w (.blk g (bO ep nx gv (.slice A1 rs.length c1) (.slice A2 ls.length c2) W) 91:: .own 62 2 (.slice A1 rs.length c1) rs.length ((rs).flatMap fD.cells):: .own 64 4 (.slice A2 ls.length c2) ls.length ((ls).flatMap Ls.cells)::fs)) (hk:k<4) (hlen:rs.length+ls.length<=500) (hnx:0<=nx/\nx<=1073741824) (hgv:0<=gv/\gv<=1073741824) (dK:0<=ep/\ep<=1048576):
    Calls Tryz.prog 29 #[pV g 0,.agg #[iV kd,iV ((k:Nat):Int),iV id,iV bd,iV he,iV hn]] w (Fe B w0 g fs (pz ⟨ep,nx,gv,rs,ls,W⟩)):=by
 refine gq 80 Tryz.func29 ?_;refine cw [0,1] ?_;refine zN 2 ?_;refine iP S ?_;intro b1 w2 S3;refine fJ S3 oK ?_;intro b4 w5 S6;refine zN 11 ?_;refine vv (aj rfl rfl (av Tryz.underlying39 rfl (St.cl 2 S6 rfl qm))) ?_;refine zQ ?_;by_cases h1:rs.length=0
 ·refine zN 7 ?_;refine vv (v:= .agg #[iV 10,iV 0,iV 0,iV 0]) gF ?_;refine sa 0 S6 dh ?_;intro w7 S8;refine zN 7 ?_;have S9:=S8.aU [1,0];have qJ:=S9.bK 1 rfl;have tu:=qJ.bK 2 rfl;rw [agG h1];refine ⟨rfl,A1,c1,A2,c2,?_⟩;dsimp only;exact tu
 refine zN 11 ?_;refine vv (aj rfl rfl (av Tryz.underlying3 rfl (St.cl 2 S6 rfl Bz))) ?_;by_cases h2:gv=1073741824
 ·refine zN 7 ?_;refine vv (v:= .agg #[iV 14,iV 0,iV 0,iV 0]) gF ?_;refine sa 0 S6 dh ?_;intro w12 yu;refine zN 7 ?_;have kD:=yu.aU [1,0];have iH:=kD.bK 1 rfl;have l6:=iH.bK 2 rfl;rw [agH h1 h2];refine ⟨rfl,A1,c1,A2,c2,?_⟩;dsimp only;exact l6
 refine zN 9 ?_;have jM:=S6.drew;refine fH 21 20 jM [] ?_;iterate 4 refine gW ?_
 refine gk (v:=iV ep) 4 rfl jM (λ_ Hu=>(aj rfl rfl (av Tryz.underlying3 rfl (St.cl 2 Hu rfl yL)))) ?_;iterate 4 refine gW ?_
 refine gk (v:=iV gv) 9 rfl jM (λ_ aAV=>(aj rfl rfl (av Tryz.underlying3 rfl (St.cl 2 aAV rfl Bz)))) ?_;refine gk (v:= .agg #[iV ep,iV gv]) 10 rfl jM (λ_ _=>gF) ?_;iterate 4 refine gW ?_
 refine gk (v:= .slice A1 rs.length c1) 15 rfl jM (λ_ an8=>(aj rfl rfl (av Tryz.underlying39 rfl (St.cl 2 an8 rfl qm)))) ?_;obtain ⟨b34,o35,rfl⟩:=Rd.addr (St.ord 3 jM rfl) (by omega);obtain ⟨Cb,abP⟩:=zL 0 (St.ord 3 jM rfl) (by omega);refine gk 16 rfl jM (λ_ _=>jI 0) ?_;refine gk (v:= .agg #[iV Cb.no,iV Cb.body]) 17 rfl jM (λ_ aAW=>(aj rfl rfl (aA (cs:=fD.cells Cb) Tryz.underlying62 rfl Gb rfl (Rd.uW (St.ord 3 aAW rfl) (λ_ _ h=>aX (enc:=fD.cells) (sz:=2) (λ_=>rfl) abP h))))) ?_;refine gk (v:= .agg #[iV ep,iV gv,iV Cb.no,iV Cb.body]) 18 rfl jM (λ_ _=>gF) ?_;refine fq (m:=1) (r:=19) (by kernel_rfl) ?_;refine mF (i:=19) rfl rfl (V:=λb=>pV b 0) (row:= #[iV 0,iV 0,iV 0,iV 0]) (t:=64) jM (wn rfl) rfl rfl (dZ rfl (Tryz.zeroValue64 _) rfl) ?_;intro b41 Uw qB;refine gW ?_;refine eP (by kernel_rfl) rfl rfl rfl ?_;refine sa 0 qB JA ?_;intro Sn ou;refine zQ ?_;refine jk ?_;refine zN 8 ?_;refine vv (aj rfl rfl (av Tryz.underlying39 rfl (St.cl 3 ou rfl qm))) ?_;have hcp:=dW (ou.own 4 rfl);obtain ⟨A46,aAX,aAY,aAZ⟩:=BQ (P:=Tryz.prog) (t:=39) (s:=2) (A:=(aD b34 o35)) (n:=rs.length) (c:=c1) (lo:=some (iV 1)) (hi:=none) (mx:=none) (l:=1) (k:=rs.length) (q:=c1) Tryz.underlying39 Gb (aik 1 rfl (by omega)) (by omega) (Nat.le_refl _) (by omega);refine vv (v:= .slice A46 (rs.length-1) (c1-1)) (kg rfl rfl (jC rfl) nV nV (aAX _)) ?_;have rM:=ou.seal 4 rfl (agL (aAY _ _ _ (St.ord 4 ou rfl))) (λa h=>aAZ a h);refine zN 3 ?_;refine jL 3 rM Sg ?_ (hs:=by exact JR);intro Xc kS;refine zN 3 ?_;have vS:=kS.drew;refine fH 13 9 vS [5] ?_;iterate 5 refine gW ?_
 refine gk (v:= .slice A2 ls.length c2) 5 rfl (St.del 5 vS) (λ_ TJ=>(aj rfl rfl (av Tryz.underlying40 rfl (St.cl 3 TJ rfl ko)))) ?_;refine gW ?_;refine fq (m:=5) (r:=7) (by kernel_rfl) ?_;refine mF (i:=7) rfl rfl (V:=λb=> .slice (aD b 0) 1 1) (row:= #[iV ep,iV gv,iV Cb.no,iV Cb.body]) (t:=64) vS (wn rfl) rfl rfl (bg (vs:=[(0,.agg #[iV ep,iV gv,iV Cb.no,iV Cb.body])]) rfl ⟨rfl,rfl,trivial⟩ (by kernel_rfl)) ?_;intro b61 w62 wJ;refine gW ?_;refine fq (m:=4) (r:=8) (by kernel_rfl) ?_;refine lG (i:=8) rfl rfl (news:=[iV ep,iV gv,iV Cb.no,iV Cb.body]) (xs':=(ls++[(⟨ep,gv,Cb⟩:Ls)]).flatMap Ls.cells) 6 wJ (wn rfl) rfl rfl rfl rfl rfl rfl (St.lM (xs:=[iV ep,iV gv,iV Cb.no,iV Cb.body]) 0 wJ rfl rfl rfl) Tryz.underlying40 ae1 rfl (by decide) (bX rfl) (by simp only [maxLen];omega) (by omega) (iJ (enc:=Ls.cells) rfl rfl) ?_;intro A64 c65 Xd aKk aKl uZ;refine gW ?_;refine eP (by kernel_rfl) rfl rfl rfl ?_;refine zN 3 ?_;refine jL 4 uZ Si ?_ (hs:=by exact JU);intro w70 uw;refine zQ ?_;refine jk ?_;refine zN 7 ?_;refine vv (aj rfl rfl (av Tryz.underlying3 rfl (St.cl 4 uw rfl Bz))) ?_;refine vv (v:=iV (gv+1)) gu ?_;refine zN 3 ?_;refine jL 4 uw nM ?_ (hs:=by exact aay);intro w72 uR;refine zN 5 ?_;refine vv (aj rfl rfl (aA (cs:=[iV ep,iV gv]) Tryz.underlying53 rfl Bp rfl (St.rg 1 uR rfl (kW (x:=0) (m:=2) rfl)))) ?_;refine zN 3 ?_;refine vv (v:= .agg #[iV 0,iV ep,iV gv,iV Cb.body]) gF ?_;refine sa 2 uR dh ?_;intro w74 Hq;refine zN 5 ?_;have Hr:=Hq.aU [3,2,1,0];have DL:=Hr.bK 2 rfl;have hl1:(rs.drop 1).length=rs.length-1:=by simp
 have hl2:(ls++[(⟨ep,gv,Cb⟩:Ls)]).length=ls.length+1:=by simp
 rw [aq4 abP h2];refine ⟨rfl,A46,(c1-1),A64,c65,?_⟩;dsimp only;rw [hl1,hl2];exact DL
section
variable {P:Program} {N:Nat} {l l':Slots} {w w' w0:World} {ops:Array Oper} {o:Oper} {rest:List Oper} {Q:Exit->Act->World->Prop} {d B:Nat} {v p:Value} {fs fs':List Fact} {b m f:Nat} {row row' cs:Array Value} {t ty:TypeId} {x y:Operand}
theorem saq (i:Nat) (S:St B w0 w fs) (hz:(P.info? ty).map (·.size)=some m) (h: ∀ w',St B w0 w' fs'->wL P N ops Q rest l w') (hw:o.guard=none:=by exact rfl) (hd:o.dst=none:=by exact rfl) (ho:o.op= .store ty x y:=by exact rfl)
  (hx:ev l x=some (.pointer (some ⟨b,0,none⟩)):=by exact rfl) (hy:ev l y=some v:=by exact rfl) (hi:fs[i]? =some (.blk b row t):=by exact rfl) (hv:v.cells=cs:=by exact rfl) (hm:cs.size=m:=by exact rfl)
  (h1: ∀ u∈cs.toList,u.oneCell'=true:=by exact tq rfl rfl) (hr:Nat.ble m row.size=true:=by exact rfl) (hs:row.size=cs.size:=by exact rfl) (hf:iR (.blk b cs t) fs i fs':=by repeat' first | exact iR.z | apply iR.s):wL P N ops Q (o::rest) l w:=
 F8 i S (wn hw) hd ho hx hy hi hv hz hm h1 (by rw [Nat.zero_add];exact Nat.le_of_ble_eq_true hr) (sG hs) hf.eq h
theorem Mr {C:World->Prop} {n:Nat} {listed listed':Array Bool} (j:Nat) (hi':ops[j]? =some o) (i:Nat) (S:St B w0 w fs) (hz:(P.info? ty).map (·.size)=some m) (h: ∀ w',St B w0 w' fs'->C w'/\wA P N ops Q C n listed' l w') (hl:listed.setIfInBounds j true=listed':=by exact rfl)
  (hw:o.guard=none:=by exact rfl) (hd:o.dst=none:=by exact rfl) (ho:o.op= .store ty x y:=by exact rfl) (hx:ev l x=some (.pointer (some ⟨b,0,none⟩)):=by exact rfl) (hy:ev l y=some v:=by exact rfl) (hi:fs[i]? =some (.blk b row t):=by exact rfl) (hv:v.cells=cs:=by exact rfl)
  (hm:cs.size=m:=by exact rfl) (h1: ∀ u∈cs.toList,u.oneCell'=true:=by exact tq rfl rfl) (hr:Nat.ble m row.size=true:=by exact rfl) (hs:row.size=cs.size:=by exact rfl) (hf:iR (.blk b cs t) fs i fs':=by repeat' first | exact iR.z | apply iR.s):wK P N ops Q C n j listed l w:=
 uX hi' hl i S (wn hw) hd ho hx hy hi hv hz hm h1 (by rw [Nat.zero_add];exact Nat.le_of_ble_eq_true hr) (sG hs) hf.eq h
end
end Go.Proofs.YtnhimdkpkmbhlaaGreatDoor
