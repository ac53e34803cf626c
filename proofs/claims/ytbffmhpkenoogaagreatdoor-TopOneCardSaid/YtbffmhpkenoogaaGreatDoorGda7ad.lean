import Derived.Test.YtbffmhpkenoogaaGreatDoorG3c475
import Derived.Test.YtbffmhpkenoogaaGreatDoorG55917
set_option maxRecDepth 100000
set_option maxHeartbeats 8000000
namespace Go.Proofs.YtbffmhpkenoogaaGreatDoor
open ChangeShapes WideShapes RowKit
structure fJ where
 no:Int
 body:Int
 deriving DecidableEq
structure Ls where
 eP:Int
 hno:Int
 msg:fJ
 deriving DecidableEq
structure jO where
 a:kr
 b:kr
 c:kr
 d:kr
 deriving DecidableEq
structure Qd where
 ep:Int
 nx:Int
 gv:Int
 ready:List fJ
 bJ:List Ls
 ws:jO
 deriving DecidableEq
def fJ.cells (m:fJ):List Value:=[iV m.no,iV m.body]
def Ls.cells (x:Ls):List Value:=[iV x.eP,iV x.hno,iV x.msg.no,iV x.msg.body]
def jO.cells (x:jO):List Value:=x.a.cells++(x.b.cells++(x.c.cells++x.d.cells))
def jO.at (x:jO) (p:Nat):kr:=if p=0 then x.a else if p=1 then x.b else if p=2 then x.c else x.d
def jO.put (x:jO) (p:Nat) (y:kr):jO:=if p=0 then { x with a:=y } else if p=1 then { x with b:=y } else if p=2 then { x with c:=y } else { x with d:=y }
theorem jO.len (x:jO):x.cells.length=36:=rfl
theorem kr.len (x:kr):x.cells.length=9:=rfl
def cB (e n g:Int) (r l:Value) (W:jO):Array Value:=(iV e::iV n::iV g::r::l::W.cells).toArray
def jf:jO:=⟨zq,zq,zq,zq⟩
section
variable {e n g:Int} {r l:Value} {W:jO}
theorem vW:(cB e n g r l W).size=41:=rfl
theorem wM:(cB e n g r l W)[0]? =some (iV e):=rfl
theorem zD:(cB e n g r l W)[1]? =some (iV n):=rfl
theorem zF:(cB e n g r l W)[2]? =some (iV g):=rfl
theorem oF:(cB e n g r l W)[3]? =some r:=rfl
theorem rU:(cB e n g r l W)[4]? =some l:=rfl
theorem afP: ∀ (j:Nat) (u:Value),W.cells[j]? =some u->(cB e n g r l W)[5+j]? =some u:=nG (m:=36) rfl
theorem afQ: ∀ (j:Nat) (u:Value),(W.at 0).cells[j]? =some u->(cB e n g r l W)[5+j]? =some u:=nG (m:=9) rfl
theorem afR: ∀ (j:Nat) (u:Value),(W.at 1).cells[j]? =some u->(cB e n g r l W)[14+j]? =some u:=nG (m:=9) rfl
theorem afS: ∀ (j:Nat) (u:Value),(W.at 2).cells[j]? =some u->(cB e n g r l W)[23+j]? =some u:=nG (m:=9) rfl
theorem afT: ∀ (j:Nat) (u:Value),(W.at 3).cells[j]? =some u->(cB e n g r l W)[32+j]? =some u:=nG (m:=9) rfl
theorem afU {z:Int}:bZ (cB e n g r l W) 0 [iV z]=cB z n g r l W:=rfl
theorem afV {z:Int}:bZ (cB e n g r l W) 1 [iV z]=cB e z g r l W:=rfl
theorem WG {z:Int}:bZ (cB e n g r l W) 2 [iV z]=cB e n z r l W:=rfl
theorem Gy {z:Value}:bZ (cB e n g r l W) 3 [z]=cB e n g z l W:=rfl
theorem Gz {z:Value}:bZ (cB e n g r l W) 4 [z]=cB e n g r z W:=rfl
theorem afW {x:kr}:bZ (cB e n g r l W) 5 x.cells=cB e n g r l (W.put 0 x):=by
 apply Array.toList_inj.1;rw [gI _ _ _ (by rw [vW,kr.len];omega)];rfl
theorem afX {x:kr}:bZ (cB e n g r l W) 14 x.cells=cB e n g r l (W.put 1 x):=by
 apply Array.toList_inj.1;rw [gI _ _ _ (by rw [vW,kr.len];omega)];rfl
theorem afY {x:kr}:bZ (cB e n g r l W) 23 x.cells=cB e n g r l (W.put 2 x):=by
 apply Array.toList_inj.1;rw [gI _ _ _ (by rw [vW,kr.len];omega)];rfl
theorem afZ {x:kr}:bZ (cB e n g r l W) 32 x.cells=cB e n g r l (W.put 3 x):=by
 apply Array.toList_inj.1;rw [gI _ _ _ (by rw [vW,kr.len];omega)];rfl
theorem GA (x:kr): ∀ u∈x.cells,u.oneCell'=true:=bT rfl
theorem aco (x:jO): ∀ u∈x.cells,u.oneCell'=true:=bT rfl
theorem Ir (hr:r.oneCell'=true) (hl:l.oneCell'=true): ∀ u∈(cB e n g r l W).toList,u.oneCell'=true:=by
 intro u hu;simp only [cB,List.mem_cons] at hu
 rcases hu with rfl | rfl | rfl | rfl | rfl | hu
 ·rfl
 ·rfl
 ·rfl
 ·exact hr
 ·exact hl
 exact aco W u hu
end
def Tx (w:World) (k:Int) (e:Ending) (w':World):Prop:=e= .returned (iV k)/\Below w.heap.size w w'
def D6 (w:World) (b:Bool) (e:Ending) (w':World):Prop:=e= .returned (.bool b)/\Below w.heap.size w w'
def qB (nx:Int) (m:fJ):Bool:=decide (0<=m.no/\m.no<nx/\0<=m.body/\m.body<=1000000)
theorem vK {nx:Int} {m:fJ} (h:qB nx m=true):0<=m.no/\m.no<nx/\0<=m.body/\m.body<=1000000:=of_decide_eq_true h
def jD (nx:Int):Int->List fJ->Bool
 | _,[]=>true
 | p,m::r=>(qB nx m&&decide (p<m.no))&&jD nx m.no r
def JY (ep nx gv p:Int) (x:Ls):Bool:=qB nx x.msg&&decide (x.eP=ep/\p<x.hno/\x.hno<gv)
def kM (ep nx gv:Int):Int->List Ls->Bool
 | _,[]=>true
 | p,x::r=>JY ep nx gv p x&&kM ep nx gv x.hno r
def mV (rs:List fJ) (ls:List Ls):List Int:=rs.map (·.no)++ls.map (·.msg.no)
def O4 (ep nx gv:Int) (rs:List fJ) (ls:List Ls):Prop:=0<=ep/\ep<=1048576/\0<=nx/\nx<=1073741824/\0<=gv/\gv<=1073741824/\rs.length+ls.length<=500
def yD (W:jO):Prop:= ∀ j,j<4->dB (W.at j)=0
open Classical in
noncomputable def fD (ep nx gv:Int) (rs:List fJ) (ls:List Ls) (W:jO):Int:=
 if ¬ O4 ep nx gv rs ls then 6 else if ¬ yD W then 6 else if jD nx (-1) rs=true/\kM ep nx gv (-1) ls=true/\(mV rs ls).Nodup then 0 else 6
section
variable {ep nx gv p:Int} {rs:List fJ} {ls:List Ls} {W:jO}
theorem AU (h: ¬ (0<=ep/\ep<=1048576/\0<=nx/\nx<=1073741824/\0<=gv/\gv<=1073741824/\rs.length+ls.length<=500)):fD ep nx gv rs ls W=6:=if_pos h
theorem yE (h: ¬ (yD W/\jD nx (-1) rs=true/\kM ep nx gv (-1) ls=true/\(mV rs ls).Nodup)):fD ep nx gv rs ls W=6:=by
 unfold fD
 split
 ·rfl
 split
 ·rfl
 rename_i h1 h2
 rw [if_neg (λh3=>h ⟨Classical.not_not.1 h2,h3⟩)]
theorem alb {j:Nat} (hj:j<4) (h:dB (W.at j)≠0):fD ep nx gv rs ls W=6:=yE λh1=>h (h1.1 j hj)
theorem apz (h0:O4 ep nx gv rs ls) (h1:yD W) (h2:jD nx (-1) rs=true) (h3:kM ep nx gv (-1) ls=true) (h4:(mV rs ls).Nodup):fD ep nx gv rs ls W=0:=by
 unfold fD;rw [if_neg (λh=>h h0),if_neg (λh=>h h1),if_pos ⟨h2,h3,h4⟩]
theorem Iu {k:Nat} {m:fJ} (h:rs[k]? =some m):jD nx p (rs.drop k)=((qB nx m&&decide (p<m.no))&&jD nx m.no (rs.drop (k+1))):=by
 obtain ⟨hk,hm⟩:=List.getElem?_eq_some_iff.1 h;rw [List.drop_eq_getElem_cons hk,hm];rfl
theorem Cr {k:Nat} {x:Ls} (h:ls[k]? =some x):kM ep nx gv p (ls.drop k)=(JY ep nx gv p x&&kM ep nx gv x.hno (ls.drop (k+1))):=by
 obtain ⟨hk,hm⟩:=List.getElem?_eq_some_iff.1 h;rw [List.drop_eq_getElem_cons hk,hm];rfl
theorem Iw {α β:Type} {f:α->β} {l:List α} {k:Nat} {x:α} (h:l[k]? =some x):(l.take k).map f++[f x]=(l.take (k+1)).map f:=by
 rw [List.take_add_one,h];simp
theorem af0 (x:kr):dB x=0\/dB x=6:=by unfold dB;split<;>simp
end
theorem Rj (W:jO) (w:World):(Instr.index 55 (.agg W.cells.toArray) (iV 0)).run Tryz.prog w= .ok (.agg (W.at 0).cells.toArray) w:=by kernel_rfl
theorem Rk (W:jO) (w:World):(Instr.index 55 (.agg W.cells.toArray) (iV 1)).run Tryz.prog w= .ok (.agg (W.at 1).cells.toArray) w:=by kernel_rfl
theorem Rl (W:jO) (w:World):(Instr.index 55 (.agg W.cells.toArray) (iV 2)).run Tryz.prog w= .ok (.agg (W.at 2).cells.toArray) w:=by kernel_rfl
theorem Rm (W:jO) (w:World):(Instr.index 55 (.agg W.cells.toArray) (iV 3)).run Tryz.prog w= .ok (.agg (W.at 3).cells.toArray) w:=by kernel_rfl
theorem U4 (W:jO) (k:Nat) (hk:k<4) (w:World):(Instr.index 55 (.agg W.cells.toArray) (iV k)).run Tryz.prog w= .ok (.agg (W.at k).cells.toArray) w:=by
 have h:k=0\/k=1\/k=2\/k=3:=by omega
 rcases h with rfl | rfl | rfl | rfl
 ·exact Rj W w
 ·exact Rk W w
 ·exact Rl W w
 exact Rm W w
theorem af2 {e n g:Int} {r l:Value} {W:jO} {k:Nat} (hk:k<4): ∀ (j:Nat) (u:Value),(W.at k).cells[j]? =some u->(cB e n g r l W)[5+k*9+j]? =some u:=by
 have h:k=0\/k=1\/k=2\/k=3:=by omega
 rcases h with rfl | rfl | rfl | rfl
 ·exact afQ
 ·exact afR
 ·exact afS
 exact afT
theorem jE {α:Type} {enc:α->List Value} {l l':List α} {x:α} {cs:List Value} (h:l++[x]=l') (he:enc x=cs):l.flatMap enc++cs=l'.flatMap enc:=by
 subst h;subst he;simp
structure iM where
 code:Int
 eP:Int
 hno:Int
 body:Int
 deriving DecidableEq
def eu:iM:=⟨0,0,0,0⟩
def ru (k:Int):iM:=⟨k,0,0,0⟩
def iM.cells (a:iM):List Value:=[iV a.code,iV a.eP,iV a.hno,iV a.body]
def iM.val (a:iM):Value:= .agg #[iV a.code,iV a.eP,iV a.hno,iV a.body]
def Bd (Q:Qd) (k:Nat) (id bd:Int):Qd×iM×Bool:=
 if (iI (Q.ws.at k) id).2.2≠0 then (Q,ru (iI (Q.ws.at k) id).2.2,false)
 else if (iI (Q.ws.at k) id).2.1=false then (Q,eu,false)
 else if Q.ready.length+Q.bJ.length=500\/Q.nx=1073741824 then (Q,ru 14,false)
 else (⟨Q.ep,Q.nx+1,Q.gv,Q.ready++[⟨Q.nx,bd⟩],Q.bJ,Q.ws.put k (iI (Q.ws.at k) id).1⟩,eu,true)
def GD (Q:Qd):Qd×iM×Bool:=match Q.ready with
 | []=>(Q,ru 10,false)
 | m::rest=>if Q.gv=1073741824 then (Q,ru 14,false) else (⟨Q.ep,Q.nx,Q.gv+1,rest,Q.bJ++[⟨Q.ep,Q.gv,m⟩],Q.ws⟩,⟨0,Q.ep,Q.gv,m.body⟩,true)
def EJ (Q:Qd) (he hn:Int):Qd×iM×Bool:=
 if he≠Q.ep then (Q,ru 11,false)
 else if (Q.bJ.filter λx=>decide (x.hno≠hn)).length=Q.bJ.length then (Q,ru 7,false)
 else (⟨Q.ep,Q.nx,Q.gv,Q.ready,Q.bJ.filter λx=>decide (x.hno≠hn),Q.ws⟩,eu,true)
def jF (m:fJ):List fJ->List fJ
 | []=>[m]
 | x::l=>if m.no<x.no then m::x::l else x::jF m l
def JZ (Q:Qd):Qd×iM×Bool:=
 if Q.ep=1048576 then (Q,ru 14,false)
 else (⟨Q.ep+1,Q.nx,0,Q.bJ.foldl (λl x=>jF x.msg l) Q.ready,[],Q.ws⟩,eu,true)
section
variable {ep nx gv bd id he hn:Int} {rs:List fJ} {ls:List Ls} {W:jO} {k:Nat}
theorem af3 (h: ¬ (iI (W.at k) id).2.2=0):Bd ⟨ep,nx,gv,rs,ls,W⟩ k id bd=(⟨ep,nx,gv,rs,ls,W⟩,ru (iI (W.at k) id).2.2,false):=if_pos h
theorem af4 (h:(iI (W.at k) id).2.2=0) (h1:(iI (W.at k) id).2.1=false):Bd ⟨ep,nx,gv,rs,ls,W⟩ k id bd=(⟨ep,nx,gv,rs,ls,W⟩,eu,false):=by
 unfold Bd;rw [if_neg (λh2=>h2 h),if_pos h1]
theorem PS (h:(iI (W.at k) id).2.2=0) (h1:(iI (W.at k) id).2.1=true) (h2:rs.length+ls.length=500\/nx=1073741824):Bd ⟨ep,nx,gv,rs,ls,W⟩ k id bd=(⟨ep,nx,gv,rs,ls,W⟩,ru 14,false):=by
 unfold Bd;rw [if_neg (λh2=>h2 h),if_neg (λh3=>by rw [h1] at h3;cases h3),if_pos h2]
theorem alc (h:(iI (W.at k) id).2.2=0) (h1:(iI (W.at k) id).2.1=true) (h2: ¬ (rs.length+ls.length=500\/nx=1073741824)):Bd ⟨ep,nx,gv,rs,ls,W⟩ k id bd=(⟨ep,nx+1,gv,rs++[⟨nx,bd⟩],ls,W.put k (iI (W.at k) id).1⟩,eu,true):=by
 unfold Bd;rw [if_neg (λh2=>h2 h),if_neg (λh3=>by rw [h1] at h3;cases h3),if_neg h2]
theorem acp (h:rs.length=0):GD ⟨ep,nx,gv,rs,ls,W⟩=(⟨ep,nx,gv,rs,ls,W⟩,ru 10,false):=by
 cases rs with
 | nil=>rfl
 | cons m r=>simp at h
theorem acr (h: ¬ rs.length=0) (h1:gv=1073741824):GD ⟨ep,nx,gv,rs,ls,W⟩=(⟨ep,nx,gv,rs,ls,W⟩,ru 14,false):=by
 cases rs with
 | nil=>simp at h
 | cons m r=>exact if_pos h1
theorem ald {m:fJ} (h:rs[0]? =some m) (h1: ¬ gv=1073741824):GD ⟨ep,nx,gv,rs,ls,W⟩=(⟨ep,nx,gv+1,rs.drop 1,ls++[⟨ep,gv,m⟩],W⟩,⟨0,ep,gv,m.body⟩,true):=by
 cases rs with
 | nil=>simp at h
 | cons m r=>
  simp at h;subst h;exact if_neg h1
theorem X7 (h: ¬ he=ep):EJ ⟨ep,nx,gv,rs,ls,W⟩ he hn=(⟨ep,nx,gv,rs,ls,W⟩,ru 11,false):=if_pos h
theorem acs (h:he=ep) (h1:(ls.filter λx=>decide (x.hno≠hn)).length=ls.length):EJ ⟨ep,nx,gv,rs,ls,W⟩ he hn=(⟨ep,nx,gv,rs,ls,W⟩,ru 7,false):=by
 unfold EJ;rw [if_neg (λh2=>h2 h),if_pos h1]
theorem ale (h:he=ep) (h1: ¬ (ls.filter λx=>decide (x.hno≠hn)).length=ls.length):EJ ⟨ep,nx,gv,rs,ls,W⟩ he hn=(⟨ep,nx,gv,rs,ls.filter λx=>decide (x.hno≠hn),W⟩,eu,true):=by
 unfold EJ;rw [if_neg (λh2=>h2 h),if_neg h1]
theorem acu (h:ep=1048576):JZ ⟨ep,nx,gv,rs,ls,W⟩=(⟨ep,nx,gv,rs,ls,W⟩,ru 14,false):=if_pos h
theorem alf (h: ¬ ep=1048576):JZ ⟨ep,nx,gv,rs,ls,W⟩=(⟨ep+1,nx,0,ls.foldl (λl x=>jF x.msg l) rs,[],W⟩,eu,true):=if_neg h
end
theorem af5 {e n g:Int} {r l:Value} {W:jO} {x:kr} {k:Nat} (hk:k<4):bZ (cB e n g r l W) (5+k*9) x.cells=cB e n g r l (W.put k x):=by
 match k,hk with
 | 0,_=>exact afW
 | 1,_=>exact afX
 | 2,_=>exact afY
 | 3,_=>exact afZ
def Da (B:Nat) (w0:World) (g:Nat) (fs:List Fact) (r:Qd×iM×Bool) (e:Ending) (w':World):Prop:=
 e= .returned (.tuple #[r.2.1.val,.bool r.2.2])/\ ∃ A1 c1 A2 c2,St B w0 w' (.blk g (cB r.1.ep r.1.nx r.1.gv (.slice A1 r.1.ready.length c1) (.slice A2 r.1.bJ.length c2) r.1.ws) 142:: .bX 2 A1 r.1.ready.length (r.1.ready.flatMap fJ.cells):: .bX 4 A2 r.1.bJ.length (r.1.bJ.flatMap Ls.cells)::fs)
instance:yB fJ where
 size:=2
 ints m:=[m.no,m.body]
 of xs:=⟨xs.getD 0 0,xs.getD 1 0⟩
 pos:=by decide
 len _:=rfl
 inv xs h:=by
  match xs,h with
  | [a,b],_=>rfl
instance:yB Ls where
 size:=4
 ints m:=[m.eP,m.hno,m.msg.no,m.msg.body]
 of xs:=⟨xs.getD 0 0,xs.getD 1 0,⟨xs.getD 2 0,xs.getD 3 0⟩⟩
 pos:=by decide
 len _:=rfl
 inv xs h:=by
  match xs,h with
  | [a,b,c,d],_=>rfl
theorem acv (l:List fJ): ∀ u∈l.flatMap fJ.cells,u.oneCell'=true:=DL l
theorem WH (l:List Ls): ∀ u∈l.flatMap Ls.cells,u.oneCell'=true:=DL l
section
variable {P:Program} {w:World} {t e:TypeId} {xo yo:Operand}
theorem uD {A:Option Addr} {n c:Nat} (h:P.underlying t=some (.slice e)):(do eqGuard .eql t xo yo (.slice A n c) (.slice none 0 0);binOp .eql t (.slice A n c) (.slice none 0 0):Sem Value).run P w= .ok (.bool A.isNone) w:=by
 rw [Sem.run_bind,show (eqGuard .eql t xo yo (.slice A n c) (.slice none 0 0)).run P w= .ok () w from rfl];exact Lib.run_eql_slice_nil w t e A n c 0 0 h
end
theorem GH {w:World} {B s n:Nat} {xs:List Value} (h:Rd w B s none n xs):n=0/\xs=[]:=by
 have h1:n=0:=by
  rcases Nat.eq_zero_or_pos n with h0 | h0
  ·exact h0
  obtain ⟨b,off,e,_⟩:=h.2 h0
  cases e
 subst h1;exact ⟨rfl,List.eq_nil_of_length_eq_zero (by have:=h.1;omega)⟩
theorem N8 (A:Option Addr) (n c:Nat) (l:List Value) (w:World) (h:Rd w w.heap.size 2 A n l) (hone: ∀ u∈l,u.oneCell'=true) (hc:n*16<=reachBytes):
    Calls Tryz.prog 54 #[.slice A n c] w (iX w 88 2 n l):=by
 unfold reachBytes at hc;have S:=(St.start w).bS h;refine fZ 8 Tryz.func54 ?_;refine cw [0] ?_;refine zN 9 ?_
 cases A with
 | none=>
  obtain ⟨rfl,rfl⟩:=GH h;refine vv (v:= .bool true) (aO rfl rfl rfl (uD Tryz.underlying50)) ?_;refine zN 11 ?_;exact iX.of (Below.refl _ _) (iP _ _ _ _)
 | some a=>
  refine vv (v:= .bool false) (aO rfl rfl rfl (uD Tryz.underlying50)) ?_;refine zN 7 ?_;refine pY (V:=λb=> .slice (aD b 0) 0 0) (row:= #[]) (t:=88) (n:=0) (s:=2) (xs:=[]) S (wn rfl) rfl rfl (aP (vs:=[]) rfl trivial (by kernel_rfl)) (by simp) (Nat.zero_le _) rfl ?_;intro b1 w2 S3;refine zQ ?_;refine dU (news:=l) (xs':=l) 0 S3 (wn rfl) rfl rfl rfl rfl rfl rfl (St.rd 1 S3 rfl) Tryz.underlying50 Sk rfl (by decide) hone (by simp only [maxLen];omega) (by omega) rfl ?_;intro A4 c5 w6 hc8 p9 S7;refine zN 5 ?_;have nU:=S7.aR [1];have ho:=nU.own 0 rfl;simp only [Nat.zero_add] at ho⊢;exact iX.of nU.low ho
theorem Oa (A:Option Addr) (n c:Nat) (l:List Value) (w:World) (h:Rd w w.heap.size 4 A n l) (hone: ∀ u∈l,u.oneCell'=true) (hc:n*32<=reachBytes):
    Calls Tryz.prog 55 #[.slice A n c] w (iX w 90 4 n l):=by
 unfold reachBytes at hc;have S:=(St.start w).bS h;refine fZ 8 Tryz.func55 ?_;refine cw [0] ?_;refine zN 9 ?_
 cases A with
 | none=>
  obtain ⟨rfl,rfl⟩:=GH h;refine vv (v:= .bool true) (aO rfl rfl rfl (uD Tryz.underlying51)) ?_;refine zN 11 ?_;exact iX.of (Below.refl _ _) (iP _ _ _ _)
 | some a=>
  refine vv (v:= .bool false) (aO rfl rfl rfl (uD Tryz.underlying51)) ?_;refine zN 7 ?_;refine pY (V:=λb=> .slice (aD b 0) 0 0) (row:= #[]) (t:=90) (n:=0) (s:=4) (xs:=[]) S (wn rfl) rfl rfl (aP (vs:=[]) rfl trivial (by kernel_rfl)) (by simp) (Nat.zero_le _) rfl ?_;intro b1 w2 S3;refine zQ ?_;refine dU (news:=l) (xs':=l) 0 S3 (wn rfl) rfl rfl rfl rfl rfl rfl (St.rd 1 S3 rfl) Tryz.underlying51 abe rfl (by decide) hone (by simp only [maxLen];omega) (by omega) rfl ?_;intro A4 c5 w6 hc8 p9 S7;refine zN 5 ?_;have nU:=S7.aR [1];have ho:=nU.own 0 rfl;simp only [Nat.zero_add] at ho⊢;exact iX.of nU.low ho
theorem BG (e nx g:Int) (r l:Value) (W:jO) (m:fJ) (w:World):
    Calls Tryz.prog 85 #[.agg (cB e nx g (r) (l) W),.agg #[iV m.no,iV m.body]] w (D6 w (qB nx m)):=by
 have S:=St.start w;refine fZ 25 Tryz.func85 ?_;refine cw [0,1] ?_;refine zN 2 ?_;refine iC S ?_;intro b1 w2 S3;refine iC S3 ?_;intro b4 w5 S6;refine zN 7 ?_;by_cases h7:0<=m.no
 ·refine zN 5 ?_;refine vg (au rfl rfl (ay Tryz.underlying3 rfl (St.cl 1 S6 rfl zD))) ?_;by_cases h8:m.no<nx
  ·refine zN 5 ?_;by_cases h9:0<=m.body
   ·refine zN 5 ?_;by_cases h10:m.body<=1000000
    ·refine zN 7 ?_;refine ⟨?_,S6.low⟩;rw [show qB nx m=true from decide_eq_true ⟨‹_›,‹_›,‹_›,‹_›⟩];rfl
    refine zN 7 ?_;refine ⟨?_,S6.low⟩;rw [show qB nx m=false from decide_eq_false (λh=>absurd h.2.2.2 ‹_›)];rfl
   refine zN 12 ?_;refine ⟨?_,S6.low⟩;rw [show qB nx m=false from decide_eq_false (λh=>absurd h.2.2.1 ‹_›)];rfl
  refine zN 17 ?_;refine ⟨?_,S6.low⟩;rw [show qB nx m=false from decide_eq_false (λh=>absurd h.2.1 ‹_›)];rfl
 refine zN 23 ?_;refine ⟨?_,S6.low⟩;rw [show qB nx m=false from decide_eq_false (λh=>absurd h.1 ‹_›)];rfl
theorem KN {B g k c1 c2:Nat} {w0 w:World} {fs:List Fact} {A1 A2:Option Addr} {rs:List fJ} {ls:List Ls} {W:jO} {ep nx gv kd id bd he hn:Int} (S:St B w0 w (.blk g (cB ep nx gv (.slice A1 rs.length c1) (.slice A2 ls.length c2) W) 142:: .own 88 2 (.slice A1 rs.length c1) rs.length ((rs).flatMap fJ.cells):: .own 90 4 (.slice A2 ls.length c2) ls.length ((ls).flatMap Ls.cells)::fs)) (hk:k<4) (hlen:rs.length+ls.length<=500) (hnx:0<=nx/\nx<=1073741824) (hgv:0<=gv/\gv<=1073741824) (eP:0<=ep/\ep<=1048576):
    Calls Tryz.prog 56 #[pV g 0,.agg #[iV kd,iV ((k:Nat):Int),iV id,iV bd,iV he,iV hn]] w (Da B w0 g fs (Bd ⟨ep,nx,gv,rs,ls,W⟩ k id bd)):=by
 refine fZ 94 Tryz.func56 ?_;refine cw [0,1] ?_;refine zN 2 ?_;refine iC S ?_;intro b1 w2 S3;refine fI S3 rT ?_;intro b4 w5 S6;refine zN 3 ?_;refine lY (X:=Nat) (λxv=>[(0,pV g 0),(3,pV b1 0),(4,pV b4 0),(5,.bool false),(6,pV xv 0),(7,.bool ((iI (W.at k) id).2.1)),(8,iV ((iI (W.at k) id).2.2))]) (λxv wr=>St B w0 wr ((.blk xv (((iI (W.at k) id).1.cells).toArray) 54)::(.blk b4 #[iV 0,iV 0,iV 0,iV 0] 79)::(.blk b1 #[iV kd,iV ((k:Nat):Int),iV id,iV bd,iV he,iV hn] 75)::(.blk g (cB ep nx gv (.slice A1 rs.length c1) (.slice A2 ls.length c2) W) 142)::(.own 88 2 (.slice A1 rs.length c1) rs.length ((rs).flatMap fJ.cells))::(.own 90 4 (.slice A2 ls.length c2) ls.length ((ls).flatMap Ls.cells))::fs)) ?_ ?_
 ·have S7:=S6.drew;refine aI 19 S7 [] ?_;refine aK 6 ?_;refine ak (v:=pV g (5+k*9)) 6 rfl S7 (λ_ _=>(bD rfl rfl rfl (eU k Tryz.underlying55 DW rfl hk))) ?_;refine ak (v:= .agg (((W.at k).cells).toArray)) 7 rfl S7 (λ_ ail=>(au rfl rfl (aA (cs:=(W.at k).cells) Tryz.underlying54 rfl DW rfl (St.rg 2 ail rfl (af2 hk))))) ?_;refine aK 2 ?_;refine gN (n:=8) (r:=10) (s:=15) (by kernel_rfl) ?_ ?_
  ·refine jw 10 rfl al8 (FB (W.at k) id _) ?_;rintro _ Kv ⟨rfl,ain⟩;refine ⟨_,rfl,?_⟩;have kT:=S7.on ain;refine aK 5 ?_;refine aU 15 ?_;refine kL 15 rfl kT aik ?_;intro PU Lv sF;refine dh ?_;refine aU 16 ?_;refine X4 16 rfl 0 sF DW ?_ (h1:=GA _);intro X8 sS;refine aK 4 ?_;refine dw PU ?_ ⟨rfl,rfl,rfl,rfl,rfl,rfl,rfl,trivial⟩;exact sS
  refine kL 15 rfl S7 aik ?_;intro b32 X9 qb;refine dh ?_;refine aU 10 ?_;refine jw 10 rfl al8 (FB (W.at k) id _) ?_;rintro _ WI ⟨rfl,aio⟩;refine ⟨_,rfl,?_⟩;have nJ:=qb.on aio;refine aK 5 ?_;refine aU 16 ?_;refine X4 16 rfl 0 nJ DW ?_ (h1:=GA _);intro Sr sG;refine aK 4 ?_;refine dw b32 ?_ ⟨rfl,rfl,rfl,rfl,rfl,rfl,rfl,trivial⟩;exact sG
 rintro b46 w47 u6
 try dsimp only at u6
 refine bH (l':=[(0,pV g 0),(3,pV b1 0),(4,pV b4 0),(5,.bool false),(6,pV b46 0),(7,.bool ((iI (W.at k) id).2.1)),(8,iV ((iI (W.at k) id).2.2))]) ⟨rfl,rfl,rfl,rfl,rfl,rfl,rfl,trivial⟩ (aT (CY (aT (aH (vm ?_)))));by_cases h1:(iI (W.at k) id).2.2=0
 ·refine zN 8 ?_
  cases h2:(iI (W.at k) id).2.1
  ·refine zN 8 ?_;refine sa 1 u6 cZ ?_;intro w49 vX;refine zN 7 ?_;have uE:=vX.aR [2,1,0];have oG:=uE.bn 1 rfl;have xZ:=oG.bn 2 rfl;rw [af4 h1 h2];refine ⟨rfl,A1,c1,A2,c2,?_⟩;dsimp only;exact xZ
  refine zN 6 ?_;refine gT u6 mixed (by kernel_rfl) ?_;refine zN 4 ?_;refine uv (v:= .slice A1 rs.length c1) (λ_ ar8=>(au rfl rfl (ay Tryz.underlying50 rfl (St.cl 3 ar8 rfl oF)))) ?_;refine zN 5 ?_;refine uv (v:= .slice A2 ls.length c2) (λ_ Ya=>(au rfl rfl (ay Tryz.underlying51 rfl (St.cl 3 Ya rfl rU)))) ?_;refine zQ ?_;refine uv (v:=iV ((rs.length+ls.length:Nat):Int)) (λ_ _=>jh) ?_;by_cases h3:rs.length+ls.length=500
  ·refine zN 10 ?_;refine gY λw71 D7=>?_;refine zN 4 ?_;refine vv (v:= .agg #[iV 14,iV 0,iV 0,iV 0]) fQ ?_;refine sa 1 D7 cZ ?_;intro w73 Lx;refine zN 7 ?_;have EK:=Lx.aR [2,1,0];have Hz:=EK.bn 1 rfl;have D8:=Hz.bn 2 rfl;rw [PS h1 h2 (.inl h3)];refine ⟨rfl,A1,c1,A2,c2,?_⟩;dsimp only;exact D8
  refine zN 6 ?_;refine ug (v:=iV nx) (λ_ ar9=>(au rfl rfl (ay Tryz.underlying3 rfl (St.cl 3 ar9 rfl zD)))) ?_;by_cases h4:nx=1073741824
  ·refine zN 3 ?_;refine gY λw88 Kw=>?_;refine zN 4 ?_;refine vv (v:= .agg #[iV 14,iV 0,iV 0,iV 0]) fQ ?_;refine sa 1 Kw cZ ?_;intro w90 Ky;refine zN 7 ?_;have x9:=Ky.aR [2,1,0];have BH:=x9.bn 1 rfl;have FQ:=BH.bn 2 rfl;rw [PS h1 h2 (.inr h4)];refine ⟨rfl,A1,c1,A2,c2,?_⟩;dsimp only;exact FQ
  refine zN 3 ?_;refine gY λw98 Yb=>?_;refine zN 6 ?_;have rz:=Yb.drew;refine aI 9 rz [3] ?_;refine aK 7 ?_;refine ak (v:=pV g (5+k*9)) 7 rfl (St.del 3 rz) (λ_ _=>(bD rfl rfl rfl (eU k Tryz.underlying55 DW rfl hk))) ?_;refine aU 8 ?_;refine sO (i:=8) rfl rfl (cs:=((iI (W.at k) id).1.cells).toArray) (row':=cB ep nx gv (.slice A1 rs.length c1) (.slice A2 ls.length c2) (W.put k (iI (W.at k) id).1)) (fs':=(.blk b46 (((iI (W.at k) id).1.cells).toArray) 54)::(.blk b4 #[iV 0,iV 0,iV 0,iV 0] 79)::(.blk b1 #[iV kd,iV ((k:Nat):Int),iV id,iV bd,iV he,iV hn] 75)::(.blk g (cB ep nx gv (.slice A1 rs.length c1) (.slice A2 ls.length c2) (W.put k (iI (W.at k) id).1)) 142)::(.own 88 2 (.slice A1 rs.length c1) rs.length ((rs).flatMap fJ.cells))::(.own 90 4 (.slice A2 ls.length c2) ls.length ((ls).flatMap Ls.cells))::fs) 3 rz (wn rfl) rfl rfl rfl rfl rfl rfl DW rfl (GA _) (by rw [vW];omega) (af5 hk) rfl ?_;intro Yc qc;refine aK 2 ?_;refine zN 2 ?_;have EL:=qc.drew;refine eO 20 16 EL [4] ?_;iterate 5 refine gy ?_
  refine gk (v:= .slice A1 rs.length c1) 5 rfl (St.del 4 EL) (λ_ apA=>(au rfl rfl (ay Tryz.underlying50 rfl (St.cl 3 apA rfl oF)))) ?_;iterate 4 refine gy ?_
  refine gk (v:=iV nx) 10 rfl (St.del 4 EL) (λ_ apB=>(au rfl rfl (ay Tryz.underlying3 rfl (St.cl 3 apB rfl zD)))) ?_;iterate 2 refine gy ?_
  refine gk (v:= .agg #[iV nx,iV bd]) 13 rfl (St.del 4 EL) (λ_ _=>fQ) ?_;refine eB (m:=5) (r:=14) (by kernel_rfl) ?_;refine lF (i:=14) rfl rfl (V:=λb=> .slice (aD b 0) 1 1) (row:= #[iV nx,iV bd]) (t:=88) EL (wn rfl) rfl rfl (aP (vs:=[(0,.agg #[iV nx,iV bd])]) rfl ⟨rfl,rfl,trivial⟩ (by kernel_rfl)) ?_;intro axH Yd wZ;refine gy ?_;refine eB (m:=4) (r:=15) (by kernel_rfl) ?_;refine kE (i:=15) rfl rfl (news:=[iV nx,iV bd]) (xs':=(rs++[(⟨nx,bd⟩:fJ)]).flatMap fJ.cells) 5 wZ (wn rfl) rfl rfl rfl rfl rfl rfl (St.lJ (xs:=[iV nx,iV bd]) 0 wZ rfl rfl rfl) Tryz.underlying50 Sk rfl (by decide) (bT rfl) (by simp only [maxLen];omega) (by omega) (jE (enc:=fJ.cells) rfl rfl) ?_;intro asa c130 aea awZ aw0 xg;refine gy ?_;refine dX (by kernel_rfl) rfl rfl rfl ?_;refine zN 3 ?_;refine je 4 xg NW ?_ (hs:=by exact Gy);intro amg Db;refine zQ ?_;refine iJ ?_;refine zN 7 ?_;refine vv (au rfl rfl (ay Tryz.underlying3 rfl (St.cl 4 Db rfl zD))) ?_;refine vv (v:=iV (nx+1)) jh ?_;refine zN 3 ?_;refine je 4 Db mM ?_ (hs:=by exact afV);intro amh Dc;refine zN 5 ?_;refine sa 2 Dc cZ ?_;intro asb EM;refine zN 5 ?_;have asc:=EM.aR [3,2,1,0];have GI:=asc.bn 1 rfl;have Tz:=GI.bn 2 rfl;rw [alc h1 h2 (λh=>h.elim h3 h4)];have hln:=(by simp:(rs++[(⟨nx,bd⟩:fJ)]).length=rs.length+1);refine ⟨rfl,asa,c130,A2,c2,?_⟩;dsimp only;rw [hln];exact Tz
 refine zN 8 ?_;refine vv (v:= .agg #[iV ((iI (W.at k) id).2.2),iV 0,iV 0,iV 0]) fQ ?_;refine sa 1 u6 cZ ?_;intro aeb J2;refine zN 7 ?_;have O5:=J2.aR [2,1,0];have O6:=O5.bn 1 rfl;have Bf:=O6.bn 2 rfl;rw [af3 h1];refine ⟨rfl,A1,c1,A2,c2,?_⟩;dsimp only;exact Bf
theorem dD {w:World} {base:Nat} {e:TypeId} {size:Nat} {A:Option Addr} {n c:Nat} {xs:List Value} (h:w.ownsRow base e size (.slice A n c) n xs):n<=c/\c<=maxLen:=by
 obtain ⟨A',c',e1,h1,h2⟩:=lK h
 cases e1;exact ⟨h1,h2⟩
theorem WJ {α:Type} {enc:α->List Value} {sz:Nat} (hsz: ∀ x,(enc x).length=sz): ∀ (k:Nat) (l:List α),(l.flatMap enc).drop (k*sz)=(l.drop k).flatMap enc
 | 0,l=>by simp
 | k+1,[]=>by simp
 | k+1,x::l=>by rw [List.flatMap_cons,Nat.succ_mul,Nat.add_comm,<-List.drop_drop,List.drop_left' (hsz x),WJ hsz k l];rfl
theorem acw {w:World} {B:Nat} {A:Option Addr} {rs:List fJ} (h:Rd w B 2 A (rs.length-1) (((rs.flatMap fJ.cells).drop (1*2)).take ((rs.length-1)*2))):Rd w B 2 A (rs.length-1) ((rs.drop 1).flatMap fJ.cells):=by
 rw [WJ (enc:=fJ.cells) (sz:=2) (λ_=>rfl),List.take_of_length_le (by rw [gX (sz:=2) (λ_=>rfl),List.length_drop];exact Nat.le_refl _)] at h;exact h
theorem KO {B g k c1 c2:Nat} {w0 w:World} {fs:List Fact} {A1 A2:Option Addr} {rs:List fJ} {ls:List Ls} {W:jO} {ep nx gv kd id bd he hn:Int} (S:St B w0 w (.blk g (cB ep nx gv (.slice A1 rs.length c1) (.slice A2 ls.length c2) W) 142:: .own 88 2 (.slice A1 rs.length c1) rs.length ((rs).flatMap fJ.cells):: .own 90 4 (.slice A2 ls.length c2) ls.length ((ls).flatMap Ls.cells)::fs)) (hk:k<4) (hlen:rs.length+ls.length<=500) (hnx:0<=nx/\nx<=1073741824) (hgv:0<=gv/\gv<=1073741824) (eP:0<=ep/\ep<=1048576):
    Calls Tryz.prog 57 #[pV g 0,.agg #[iV kd,iV ((k:Nat):Int),iV id,iV bd,iV he,iV hn]] w (Da B w0 g fs (GD ⟨ep,nx,gv,rs,ls,W⟩)):=by
 refine fZ 80 Tryz.func57 ?_;refine cw [0,1] ?_;refine zN 2 ?_;refine iC S ?_;intro b1 w2 S3;refine fI S3 rT ?_;intro b4 w5 S6;refine zN 11 ?_;refine vv (au rfl rfl (ay Tryz.underlying50 rfl (St.cl 2 S6 rfl oF))) ?_;refine zQ ?_;by_cases h1:rs.length=0
 ·refine zN 7 ?_;refine vv (v:= .agg #[iV 10,iV 0,iV 0,iV 0]) fQ ?_;refine sa 0 S6 cZ ?_;intro w7 S8;refine zN 7 ?_;have S9:=S8.aR [1,0];have nU:=S9.bn 1 rfl;have qN:=nU.bn 2 rfl;rw [acp h1];refine ⟨rfl,A1,c1,A2,c2,?_⟩;dsimp only;exact qN
 refine zN 11 ?_;refine vv (au rfl rfl (ay Tryz.underlying3 rfl (St.cl 2 S6 rfl zF))) ?_;by_cases h2:gv=1073741824
 ·refine zN 7 ?_;refine vv (v:= .agg #[iV 14,iV 0,iV 0,iV 0]) fQ ?_;refine sa 0 S6 cZ ?_;intro w12 yF;refine zN 7 ?_;have jT:=yF.aR [1,0];have iw:=jT.bn 1 rfl;have lg:=iw.bn 2 rfl;rw [acr h1 h2];refine ⟨rfl,A1,c1,A2,c2,?_⟩;dsimp only;exact lg
 refine zN 9 ?_;have lG:=S6.drew;refine eO 21 20 lG [] ?_;iterate 4 refine gy ?_
 refine gk (v:=iV ep) 4 rfl lG (λ_ EN=>(au rfl rfl (ay Tryz.underlying3 rfl (St.cl 2 EN rfl wM)))) ?_;iterate 4 refine gy ?_
 refine gk (v:=iV gv) 9 rfl lG (λ_ ase=>(au rfl rfl (ay Tryz.underlying3 rfl (St.cl 2 ase rfl zF)))) ?_;refine gk (v:= .agg #[iV ep,iV gv]) 10 rfl lG (λ_ _=>fQ) ?_;iterate 4 refine gy ?_
 refine gk (v:= .slice A1 rs.length c1) 15 rfl lG (λ_ aip=>(au rfl rfl (ay Tryz.underlying50 rfl (St.cl 2 aip rfl oF)))) ?_;obtain ⟨b34,o35,rfl⟩:=Rd.addr (St.ord 3 lG rfl) (by omega);obtain ⟨Jo,ami⟩:=Ku 0 (St.ord 3 lG rfl) (by omega);refine gk 16 rfl lG (λ_ _=>ku 0) ?_;refine gk (v:= .agg #[iV Jo.no,iV Jo.body]) 17 rfl lG (λ_ asf=>(au rfl rfl (aA (cs:=fJ.cells Jo) Tryz.underlying88 rfl DX rfl (Rd.wS (St.ord 3 asf rfl) (λ_ _ h=>bV (enc:=fJ.cells) (sz:=2) (λ_=>rfl) ami h))))) ?_;refine gk (v:= .agg #[iV ep,iV gv,iV Jo.no,iV Jo.body]) 18 rfl lG (λ_ _=>fQ) ?_;refine eB (m:=1) (r:=19) (by kernel_rfl) ?_;refine lF (i:=19) rfl rfl (V:=λb=>pV b 0) (row:= #[iV 0,iV 0,iV 0,iV 0]) (t:=90) lG (wn rfl) rfl rfl (iY rfl (Tryz.zeroValue90 _) rfl) ?_;intro b41 Sr sG;refine gy ?_;refine dX (by kernel_rfl) rfl rfl rfl ?_;refine sa 0 sG Gd ?_;intro PV nV;refine zQ ?_;refine iJ ?_;refine zN 8 ?_;refine vv (au rfl rfl (ay Tryz.underlying50 rfl (St.cl 3 nV rfl oF))) ?_;have hcp:=dD (nV.own 4 rfl);obtain ⟨A46,asg,ash,asi⟩:=zS (P:=Tryz.prog) (t:=50) (s:=2) (A:=(aD b34 o35)) (n:=rs.length) (c:=c1) (lo:=some (iV 1)) (hi:=none) (mx:=none) (l:=1) (k:=rs.length) (q:=c1) Tryz.underlying50 DX (ad5 1 rfl (by omega)) (by omega) (Nat.le_refl _) (by omega);refine vv (v:= .slice A46 (rs.length-1) (c1-1)) (jq rfl rfl (iK rfl) lT lT (asg _)) ?_;have vX:=nV.seal 4 rfl (acw (ash _ _ _ (St.ord 4 nV rfl))) (λa h=>asi a h);refine zN 3 ?_;refine je 3 vX NW ?_ (hs:=by exact Gy);intro Ye oG;refine zN 3 ?_;have xZ:=oG.drew;refine eO 13 9 xZ [5] ?_;iterate 5 refine gy ?_
 refine gk (v:= .slice A2 ls.length c2) 5 rfl (St.del 5 xZ) (λ_ Yf=>(au rfl rfl (ay Tryz.underlying51 rfl (St.cl 3 Yf rfl rU)))) ?_;refine gy ?_;refine eB (m:=5) (r:=7) (by kernel_rfl) ?_;refine lF (i:=7) rfl rfl (V:=λb=> .slice (aD b 0) 1 1) (row:= #[iV ep,iV gv,iV Jo.no,iV Jo.body]) (t:=90) xZ (wn rfl) rfl rfl (aP (vs:=[(0,.agg #[iV ep,iV gv,iV Jo.no,iV Jo.body])]) rfl ⟨rfl,rfl,trivial⟩ (by kernel_rfl)) ?_;intro b61 WK u7;refine gy ?_;refine eB (m:=4) (r:=8) (by kernel_rfl) ?_;refine kE (i:=8) rfl rfl (news:=[iV ep,iV gv,iV Jo.no,iV Jo.body]) (xs':=(ls++[(⟨ep,gv,Jo⟩:Ls)]).flatMap Ls.cells) 6 u7 (wn rfl) rfl rfl rfl rfl rfl rfl (St.lJ (xs:=[iV ep,iV gv,iV Jo.no,iV Jo.body]) 0 u7 rfl rfl rfl) Tryz.underlying51 abe rfl (by decide) (bT rfl) (by simp only [maxLen];omega) (by omega) (jE (enc:=Ls.cells) rfl rfl) ?_;intro A64 c65 Sv axI axJ sU;refine gy ?_;refine dX (by kernel_rfl) rfl rfl rfl ?_;refine zN 3 ?_;refine je 4 sU NY ?_ (hs:=by exact Gz);intro Yg rM;refine zQ ?_;refine iJ ?_;refine zN 7 ?_;refine vv (au rfl rfl (ay Tryz.underlying3 rfl (St.cl 4 rM rfl zF))) ?_;refine vv (v:=iV (gv+1)) jh ?_;refine zN 3 ?_;refine je 4 rM mM ?_ (hs:=by exact WG);intro w72 sH;refine zN 5 ?_;refine vv (au rfl rfl (aA (cs:=[iV ep,iV gv]) Tryz.underlying73 rfl Tk rfl (St.rg 1 sH rfl (nG (x:=0) (m:=2) rfl)))) ?_;refine zN 3 ?_;refine vv (v:= .agg #[iV 0,iV ep,iV gv,iV Jo.body]) fQ ?_;refine sa 2 sH cZ ?_;intro w74 EK;refine zN 5 ?_;have Hz:=EK.aR [3,2,1,0];have D8:=Hz.bn 2 rfl;have hl1:(rs.drop 1).length=rs.length-1:=by simp
 have hl2:(ls++[(⟨ep,gv,Jo⟩:Ls)]).length=ls.length+1:=by simp
 rw [ald ami h2];refine ⟨rfl,A46,(c1-1),A64,c65,?_⟩;dsimp only;rw [hl1,hl2];exact D8
section
variable {P:Program} {N:Nat} {l l':Slots} {w w' w0:World} {ops:Array Oper} {o:Oper} {rest:List Oper} {Q:Exit->Act->World->Prop} {d B:Nat} {v p:Value} {fs fs':List Fact} {b m f:Nat} {row row' cs:Array Value} {t ty:TypeId} {x y:Operand}
theorem saq (i:Nat) (S:St B w0 w fs) (hz:(P.info? ty).map (·.size)=some m) (h: ∀ w',St B w0 w' fs'->wL P N ops Q rest l w') (hw:o.guard=none:=by exact rfl) (hd:o.dst=none:=by exact rfl) (ho:o.op= .store ty x y:=by exact rfl)
  (hx:ev l x=some (.pointer (some ⟨b,0,none⟩)):=by exact rfl) (hy:ev l y=some v:=by exact rfl) (hi:fs[i]? =some (.blk b row t):=by exact rfl) (hv:v.cells=cs:=by exact rfl) (hm:cs.size=m:=by exact rfl)
  (h1: ∀ u∈cs.toList,u.oneCell'=true:=by exact Ir rfl rfl) (hr:Nat.ble m row.size=true:=by exact rfl) (hs:row.size=cs.size:=by exact rfl) (hf:iB (.blk b cs t) fs i fs':=by repeat' first | exact iB.z | apply iB.s):wL P N ops Q (o::rest) l w:=
 DU i S (wn hw) hd ho hx hy hi hv hz hm h1 (by rw [Nat.zero_add];exact Nat.le_of_ble_eq_true hr) (qz hs) hf.eq h
theorem WL {C:World->Prop} {n:Nat} {listed listed':Array Bool} (j:Nat) (hi':ops[j]? =some o) (i:Nat) (S:St B w0 w fs) (hz:(P.info? ty).map (·.size)=some m) (h: ∀ w',St B w0 w' fs'->C w'/\wA P N ops Q C n listed' l w') (hl:listed.setIfInBounds j true=listed':=by exact rfl)
  (hw:o.guard=none:=by exact rfl) (hd:o.dst=none:=by exact rfl) (ho:o.op= .store ty x y:=by exact rfl) (hx:ev l x=some (.pointer (some ⟨b,0,none⟩)):=by exact rfl) (hy:ev l y=some v:=by exact rfl) (hi:fs[i]? =some (.blk b row t):=by exact rfl) (hv:v.cells=cs:=by exact rfl)
  (hm:cs.size=m:=by exact rfl) (h1: ∀ u∈cs.toList,u.oneCell'=true:=by exact Ir rfl rfl) (hr:Nat.ble m row.size=true:=by exact rfl) (hs:row.size=cs.size:=by exact rfl) (hf:iB (.blk b cs t) fs i fs':=by repeat' first | exact iB.z | apply iB.s):wK P N ops Q C n j listed l w:=
 sO hi' hl i S (wn hw) hd ho hx hy hi hv hz hm h1 (by rw [Nat.zero_add];exact Nat.le_of_ble_eq_true hr) (qz hs) hf.eq h
end
end Go.Proofs.YtbffmhpkenoogaaGreatDoor
