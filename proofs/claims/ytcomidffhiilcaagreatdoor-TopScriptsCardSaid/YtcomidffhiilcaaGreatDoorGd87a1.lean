import Derived.Shelf.SlicesG.Cmp
import Derived.Shelf.SlGeneric
import Derived.Ground.SlsfProg
import Derived.Ground.SlgcProg
import Derived.Test.YtcomidffhiilcaaGreatDoorG408ae
import Derived.Test.YtcomidffhiilcaaGreatDoorG5cb02
import Derived.Test.YtcomidffhiilcaaGreatDoorGd67e8
import Derived.Test.YtcomidffhiilcaaGreatDoorGeb831
set_option maxRecDepth 100000
set_option maxHeartbeats 8000000
set_option linter.unusedSimpArgs false
set_option linter.unusedVariables false
namespace Go.Proofs.YtcomidffhiilcaaGreatDoor
section
open ChangeShapes WideShapes RowKit
structure gV where
 no:Int
 body:Int
 deriving DecidableEq
structure Ls where
 iC:Int
 hno:Int
 msg:gV
 deriving DecidableEq
structure kN where
 a:lK
 b:lK
 c:lK
 d:lK
 deriving DecidableEq
structure Qd where
 ep:Int
 nx:Int
 gv:Int
 ready:List gV
 bH:List Ls
 ws:kN
 deriving DecidableEq
def gV.cells (m:gV):List Value:=[iV m.no,iV m.body]
def Ls.cells (x:Ls):List Value:=[iV x.iC,iV x.hno,iV x.msg.no,iV x.msg.body]
def kN.cells (x:kN):List Value:=x.a.cells++(x.b.cells++(x.c.cells++x.d.cells))
def kN.at (x:kN) (p:Nat):lK:=if p=0 then x.a else if p=1 then x.b else if p=2 then x.c else x.d
def kN.put (x:kN) (p:Nat) (y:lK):kN:=if p=0 then { x with a:=y } else if p=1 then { x with b:=y } else if p=2 then { x with c:=y } else { x with d:=y }
theorem kN.len (x:kN):x.cells.length=36:=rfl
theorem lK.len (x:lK):x.cells.length=9:=rfl
def cZ (e n g:Int) (r l:Value) (W:kN):Array Value:=(iV e::iV n::iV g::r::l::W.cells).toArray
def jF:kN:=⟨Ak,Ak,Ak,Ak⟩
section
variable {e n g:Int} {r l:Value} {W:kN}
theorem wX:(cZ e n g r l W).size=41:=rfl
theorem xH:(cZ e n g r l W)[0]? =some (iV e):=rfl
theorem Aq:(cZ e n g r l W)[1]? =some (iV n):=rfl
theorem Ar:(cZ e n g r l W)[2]? =some (iV g):=rfl
theorem pR:(cZ e n g r l W)[3]? =some r:=rfl
theorem sU:(cZ e n g r l W)[4]? =some l:=rfl
theorem ain: ∀ (j:Nat) (u:Value),W.cells[j]? =some u->(cZ e n g r l W)[5+j]? =some u:=l8 (m:=36) rfl
theorem aio: ∀ (j:Nat) (u:Value),(W.at 0).cells[j]? =some u->(cZ e n g r l W)[5+j]? =some u:=l8 (m:=9) rfl
theorem aip: ∀ (j:Nat) (u:Value),(W.at 1).cells[j]? =some u->(cZ e n g r l W)[14+j]? =some u:=l8 (m:=9) rfl
theorem aiq: ∀ (j:Nat) (u:Value),(W.at 2).cells[j]? =some u->(cZ e n g r l W)[23+j]? =some u:=l8 (m:=9) rfl
theorem air: ∀ (j:Nat) (u:Value),(W.at 3).cells[j]? =some u->(cZ e n g r l W)[32+j]? =some u:=l8 (m:=9) rfl
theorem ais {z:Int}:cB (cZ e n g r l W) 0 [iV z]=cZ z n g r l W:=rfl
theorem ait {z:Int}:cB (cZ e n g r l W) 1 [iV z]=cZ e z g r l W:=rfl
theorem XL {z:Int}:cB (cZ e n g r l W) 2 [iV z]=cZ e n z r l W:=rfl
theorem Ii {z:Value}:cB (cZ e n g r l W) 3 [z]=cZ e n g z l W:=rfl
theorem Ij {z:Value}:cB (cZ e n g r l W) 4 [z]=cZ e n g r z W:=rfl
theorem aiu {x:lK}:cB (cZ e n g r l W) 5 x.cells=cZ e n g r l (W.put 0 x):=by
 apply Array.toList_inj.1;rw [iq _ _ _ (by rw [wX,lK.len];omega)];rfl
theorem aiv {x:lK}:cB (cZ e n g r l W) 14 x.cells=cZ e n g r l (W.put 1 x):=by
 apply Array.toList_inj.1;rw [iq _ _ _ (by rw [wX,lK.len];omega)];rfl
theorem aiw {x:lK}:cB (cZ e n g r l W) 23 x.cells=cZ e n g r l (W.put 2 x):=by
 apply Array.toList_inj.1;rw [iq _ _ _ (by rw [wX,lK.len];omega)];rfl
theorem aix {x:lK}:cB (cZ e n g r l W) 32 x.cells=cZ e n g r l (W.put 3 x):=by
 apply Array.toList_inj.1;rw [iq _ _ _ (by rw [wX,lK.len];omega)];rfl
theorem Ik (x:lK): ∀ u∈x.cells,u.oneCell'=true:=aM rfl
theorem aec (x:kN): ∀ u∈x.cells,u.oneCell'=true:=aM rfl
theorem JG (hr:r.oneCell'=true) (hl:l.oneCell'=true): ∀ u∈(cZ e n g r l W).toList,u.oneCell'=true:=by
 intro u hu;simp only [cZ,List.mem_cons] at hu
 rcases hu with rfl | rfl | rfl | rfl | rfl | hu
 ·rfl
 ·rfl
 ·rfl
 ·exact hr
 ·exact hl
 exact aec W u hu
end
def UC (w:World) (k:Int) (e:Ending) (w':World):Prop:=e= .returned (iV k)/\Below w.heap.size w w'
def EU (w:World) (b:Bool) (e:Ending) (w':World):Prop:=e= .returned (.bool b)/\Below w.heap.size w w'
def wz (nx:Int) (m:gV):Bool:=decide (0<=m.no/\m.no<nx/\0<=m.body/\m.body<=1000000)
theorem QN {nx:Int} {m:gV} (h:wz nx m=true):0<=m.no/\m.no<nx/\0<=m.body/\m.body<=1000000:=of_decide_eq_true h
def mQ (nx:Int):Int->List gV->Bool
 | _,[]=>true
 | p,m::r=>(wz nx m&&decide (p<m.no))&&mQ nx m.no r
def MR (ep nx gv p:Int) (x:Ls):Bool:=wz nx x.msg&&decide (x.iC=ep/\p<x.hno/\x.hno<gv)
def oO (ep nx gv:Int):Int->List Ls->Bool
 | _,[]=>true
 | p,x::r=>MR ep nx gv p x&&oO ep nx gv x.hno r
def Au (rs:List gV) (ls:List Ls):List Int:=rs.map (·.no)++ls.map (·.msg.no)
def UD (ep nx gv:Int) (rs:List gV) (ls:List Ls):Prop:=0<=ep/\ep<=1048576/\0<=nx/\nx<=1073741824/\0<=gv/\gv<=1073741824/\rs.length+ls.length<=500
def Jc (W:kN):Prop:= ∀ j,j<4->fF (W.at j)=0
open Classical in
noncomputable def jv (ep nx gv:Int) (rs:List gV) (ls:List Ls) (W:kN):Int:=
 if ¬ UD ep nx gv rs ls then 6 else if ¬ Jc W then 6 else if mQ nx (-1) rs=true/\oO ep nx gv (-1) ls=true/\(Au rs ls).Nodup then 0 else 6
section
variable {ep nx gv p:Int} {rs:List gV} {ls:List Ls} {W:kN}
theorem BQ (h: ¬ (0<=ep/\ep<=1048576/\0<=nx/\nx<=1073741824/\0<=gv/\gv<=1073741824/\rs.length+ls.length<=500)):jv ep nx gv rs ls W=6:=if_pos h
theorem yV (h: ¬ (Jc W/\mQ nx (-1) rs=true/\oO ep nx gv (-1) ls=true/\(Au rs ls).Nodup)):jv ep nx gv rs ls W=6:=by
 unfold jv
 split
 ·rfl
 split
 ·rfl
 rename_i h1 h2
 rw [if_neg (λh3=>h ⟨Classical.not_not.1 h2,h3⟩)]
theorem aol {j:Nat} (hj:j<4) (h:fF (W.at j)≠0):jv ep nx gv rs ls W=6:=yV λh1=>h (h1.1 j hj)
theorem atM (h0:UD ep nx gv rs ls) (h1:Jc W) (h2:mQ nx (-1) rs=true) (h3:oO ep nx gv (-1) ls=true) (h4:(Au rs ls).Nodup):jv ep nx gv rs ls W=0:=by
 unfold jv;rw [if_neg (λh=>h h0),if_neg (λh=>h h1),if_pos ⟨h2,h3,h4⟩]
theorem JH {k:Nat} {m:gV} (h:rs[k]? =some m):mQ nx p (rs.drop k)=((wz nx m&&decide (p<m.no))&&mQ nx m.no (rs.drop (k+1))):=by
 obtain ⟨hk,hm⟩:=List.getElem?_eq_some_iff.1 h;rw [List.drop_eq_getElem_cons hk,hm];rfl
theorem Dz {k:Nat} {x:Ls} (h:ls[k]? =some x):oO ep nx gv p (ls.drop k)=(MR ep nx gv p x&&oO ep nx gv x.hno (ls.drop (k+1))):=by
 obtain ⟨hk,hm⟩:=List.getElem?_eq_some_iff.1 h;rw [List.drop_eq_getElem_cons hk,hm];rfl
theorem JI {α β:Type} {f:α->β} {l:List α} {k:Nat} {x:α} (h:l[k]? =some x):(l.take k).map f++[f x]=(l.take (k+1)).map f:=by
 rw [List.take_add_one,h];simp
theorem aiy (x:lK):fF x=0\/fF x=6:=by unfold fF;split<;>simp
end
theorem Sk (W:kN) (w:World):(Instr.index 222 (.agg W.cells.toArray) (iV 0)).run Tryz.prog w= .ok (.agg (W.at 0).cells.toArray) w:=kQ
theorem Sl (W:kN) (w:World):(Instr.index 222 (.agg W.cells.toArray) (iV 1)).run Tryz.prog w= .ok (.agg (W.at 1).cells.toArray) w:=kQ
theorem Sm (W:kN) (w:World):(Instr.index 222 (.agg W.cells.toArray) (iV 2)).run Tryz.prog w= .ok (.agg (W.at 2).cells.toArray) w:=kQ
theorem Sn (W:kN) (w:World):(Instr.index 222 (.agg W.cells.toArray) (iV 3)).run Tryz.prog w= .ok (.agg (W.at 3).cells.toArray) w:=kQ
theorem V4 (W:kN) (k:Nat) (hk:k<4) (w:World):(Instr.index 222 (.agg W.cells.toArray) (iV k)).run Tryz.prog w= .ok (.agg (W.at k).cells.toArray) w:=by
 have h:k=0\/k=1\/k=2\/k=3:=oQ
 rcases h with rfl | rfl | rfl | rfl
 ·exact Sk W w
 ·exact Sl W w
 ·exact Sm W w
 exact Sn W w
theorem aiz {e n g:Int} {r l:Value} {W:kN} {k:Nat} (hk:k<4): ∀ (j:Nat) (u:Value),(W.at k).cells[j]? =some u->(cZ e n g r l W)[5+k*9+j]? =some u:=by
 have h:k=0\/k=1\/k=2\/k=3:=oQ
 rcases h with rfl | rfl | rfl | rfl
 ·exact aio
 ·exact aip
 ·exact aiq
 exact air
theorem kI {α:Type} {enc:α->List Value} {l l':List α} {x:α} {cs:List Value} (h:l++[x]=l') (he:enc x=cs):l.flatMap enc++cs=l'.flatMap enc:=by
 subst h;subst he;simp
structure jo where
 code:Int
 iC:Int
 hno:Int
 body:Int
 deriving DecidableEq
def iH:jo:=⟨0,0,0,0⟩
def rV (k:Int):jo:=⟨k,0,0,0⟩
def jo.cells (a:jo):List Value:=[iV a.code,iV a.iC,iV a.hno,iV a.body]
def jo.val (a:jo):Value:= .agg #[iV a.code,iV a.iC,iV a.hno,iV a.body]
def FP (Q:Qd) (k:Nat) (id bd:Int):Qd×jo×Bool:=
 if (jT (Q.ws.at k) id).2.2≠0 then (Q,rV (jT (Q.ws.at k) id).2.2,false)
 else if (jT (Q.ws.at k) id).2.1=false then (Q,iH,false)
 else if Q.ready.length+Q.bH.length=500\/Q.nx=1073741824 then (Q,rV 14,false)
 else (⟨Q.ep,Q.nx+1,Q.gv,Q.ready++[⟨Q.nx,bd⟩],Q.bH,Q.ws.put k (jT (Q.ws.at k) id).1⟩,iH,true)
def MS (Q:Qd):Qd×jo×Bool:=match Q.ready with
 | []=>(Q,rV 10,false)
 | m::rest=>if Q.gv=1073741824 then (Q,rV 14,false) else (⟨Q.ep,Q.nx,Q.gv+1,rest,Q.bH++[⟨Q.ep,Q.gv,m⟩],Q.ws⟩,⟨0,Q.ep,Q.gv,m.body⟩,true)
def KY (Q:Qd) (he hn:Int):Qd×jo×Bool:=
 if he≠Q.ep then (Q,rV 11,false)
 else if (Q.bH.filter λx=>decide (x.hno≠hn)).length=Q.bH.length then (Q,rV 7,false)
 else (⟨Q.ep,Q.nx,Q.gv,Q.ready,Q.bH.filter λx=>decide (x.hno≠hn),Q.ws⟩,iH,true)
def rH (m:gV):List gV->List gV
 | []=>[m]
 | x::l=>if m.no<x.no then m::x::l else x::rH m l
def UE (Q:Qd):Qd×jo×Bool:=
 if Q.ep=1048576 then (Q,rV 14,false)
 else (⟨Q.ep+1,Q.nx,0,Q.bH.foldl (λl x=>rH x.msg l) Q.ready,[],Q.ws⟩,iH,true)
section
variable {ep nx gv bd id he hn:Int} {rs:List gV} {ls:List Ls} {W:kN} {k:Nat}
theorem aiA (h: ¬ (jT (W.at k) id).2.2=0):FP ⟨ep,nx,gv,rs,ls,W⟩ k id bd=(⟨ep,nx,gv,rs,ls,W⟩,rV (jT (W.at k) id).2.2,false):=if_pos h
theorem aiB (h:(jT (W.at k) id).2.2=0) (h1:(jT (W.at k) id).2.1=false):FP ⟨ep,nx,gv,rs,ls,W⟩ k id bd=(⟨ep,nx,gv,rs,ls,W⟩,iH,false):=by
 unfold FP;rw [if_neg (λh2=>h2 h),if_pos h1]
theorem QO (h:(jT (W.at k) id).2.2=0) (h1:(jT (W.at k) id).2.1=true) (h2:rs.length+ls.length=500\/nx=1073741824):FP ⟨ep,nx,gv,rs,ls,W⟩ k id bd=(⟨ep,nx,gv,rs,ls,W⟩,rV 14,false):=by
 unfold FP;rw [if_neg (λh2=>h2 h),if_neg (λh3=>by rw [h1] at h3;cases h3),if_pos h2]
theorem aom (h:(jT (W.at k) id).2.2=0) (h1:(jT (W.at k) id).2.1=true) (h2: ¬ (rs.length+ls.length=500\/nx=1073741824)):FP ⟨ep,nx,gv,rs,ls,W⟩ k id bd=(⟨ep,nx+1,gv,rs++[⟨nx,bd⟩],ls,W.put k (jT (W.at k) id).1⟩,iH,true):=by
 unfold FP;rw [if_neg (λh2=>h2 h),if_neg (λh3=>by rw [h1] at h3;cases h3),if_neg h2]
theorem aed (h:rs.length=0):MS ⟨ep,nx,gv,rs,ls,W⟩=(⟨ep,nx,gv,rs,ls,W⟩,rV 10,false):=by
 cases rs with
 | nil=>rfl
 | cons m r=>simp at h
theorem aee (h: ¬ rs.length=0) (h1:gv=1073741824):MS ⟨ep,nx,gv,rs,ls,W⟩=(⟨ep,nx,gv,rs,ls,W⟩,rV 14,false):=by
 cases rs with
 | nil=>simp at h
 | cons m r=>exact if_pos h1
theorem aon {m:gV} (h:rs[0]? =some m) (h1: ¬ gv=1073741824):MS ⟨ep,nx,gv,rs,ls,W⟩=(⟨ep,nx,gv+1,rs.drop 1,ls++[⟨ep,gv,m⟩],W⟩,⟨0,ep,gv,m.body⟩,true):=by
 cases rs with
 | nil=>simp at h
 | cons m r=>
  simp at h;subst h;exact if_neg h1
theorem Y3 (h: ¬ he=ep):KY ⟨ep,nx,gv,rs,ls,W⟩ he hn=(⟨ep,nx,gv,rs,ls,W⟩,rV 11,false):=if_pos h
theorem aef (h:he=ep) (h1:(ls.filter λx=>decide (x.hno≠hn)).length=ls.length):KY ⟨ep,nx,gv,rs,ls,W⟩ he hn=(⟨ep,nx,gv,rs,ls,W⟩,rV 7,false):=by
 unfold KY;rw [if_neg (λh2=>h2 h),if_pos h1]
theorem aoo (h:he=ep) (h1: ¬ (ls.filter λx=>decide (x.hno≠hn)).length=ls.length):KY ⟨ep,nx,gv,rs,ls,W⟩ he hn=(⟨ep,nx,gv,rs,ls.filter λx=>decide (x.hno≠hn),W⟩,iH,true):=by
 unfold KY;rw [if_neg (λh2=>h2 h),if_neg h1]
theorem aeg (h:ep=1048576):UE ⟨ep,nx,gv,rs,ls,W⟩=(⟨ep,nx,gv,rs,ls,W⟩,rV 14,false):=if_pos h
theorem aop (h: ¬ ep=1048576):UE ⟨ep,nx,gv,rs,ls,W⟩=(⟨ep+1,nx,0,ls.foldl (λl x=>rH x.msg l) rs,[],W⟩,iH,true):=if_neg h
end
theorem aiC {e n g:Int} {r l:Value} {W:kN} {x:lK} {k:Nat} (hk:k<4):cB (cZ e n g r l W) (5+k*9) x.cells=cZ e n g r l (W.put k x):=by
 match k,hk with
 | 0,_=>exact aiu
 | 1,_=>exact aiv
 | 2,_=>exact aiw
 | 3,_=>exact aix
def Eb (B:Nat) (w0:World) (g:Nat) (fs:List Fact) (r:Qd×jo×Bool) (e:Ending) (w':World):Prop:=
 e= .returned (.tuple #[r.2.1.val,.bool r.2.2])/\ ∃ A1 c1 A2 c2,St B w0 w' (.blk g (cZ r.1.ep r.1.nx r.1.gv (.slice A1 r.1.ready.length c1) (.slice A2 r.1.bH.length c2) r.1.ws) 270:: .bI 2 A1 r.1.ready.length (r.1.ready.flatMap gV.cells):: .bI 4 A2 r.1.bH.length (r.1.bH.flatMap Ls.cells)::fs)
end
section
section
open Go.Shelf Go.RowKit Go.Lib Go.Sort
def Sq:Go.Shelf.Ren:=⟨λ| 6=>177 | 15=>182 | 14=>181 | 28=>192 | 29=>114 | 20=>184 | 21=>185 | 22=>186 | 23=>187 | 24=>188 | 25=>189 | 26=>190 | 27=>191 | 46=>194 | 47=>195 | 48=>196 | 49=>197 | 50=>198 | 57=>199 | n=>n,λ| 22=>217 | 24=>273 | 25=>290 | 3=>3 | 39=>184 | 0=>0 | 53=>209 | 55=>174 | 4=>4 | 46=>297 | 45=>296 | 50=>301 | 5=>5 | 9=>9 | 66=>303 | 70=>83 | 76=>308 | 77=>309 | n=>n,λ| n=>n⟩
theorem XM:Go.Proofs.SlLaysF0.n6 Tryz.prog Sq:={
 mixed:=kQ
 f6:=⟨Tryz.f177.name,by decide,Tryz.func177.trans (congrArg some kQ)⟩
 f14:=⟨Tryz.f181.name,by decide,Tryz.func181.trans (congrArg some kQ)⟩
 f15:=Tryz.func182.trans (congrArg some kQ)
 f20:=⟨Tryz.f184.name,by decide,Tryz.func184.trans (congrArg some kQ)⟩
 f21:=⟨Tryz.f185.name,by decide,Tryz.func185.trans (congrArg some kQ)⟩
 f22:=⟨Tryz.f186.name,by decide,Tryz.func186.trans (congrArg some kQ)⟩
 f23:=⟨Tryz.f187.name,by decide,Tryz.func187.trans (congrArg some kQ)⟩
 f24:=⟨Tryz.f188.name,by decide,Tryz.func188.trans (congrArg some kQ)⟩
 f25:=⟨Tryz.f189.name,by decide,Tryz.func189.trans (congrArg some kQ)⟩
 f26:=⟨Tryz.f190.name,by decide,Tryz.func190.trans (congrArg some kQ)⟩
 f27:=⟨Tryz.f191.name,by decide,Tryz.func191.trans (congrArg some kQ)⟩
 f28:=Tryz.func192.trans (congrArg some kQ)
 f29:=Tryz.func114.trans (congrArg some kQ)
 f46:=⟨Tryz.f194.name,by decide,Tryz.func194.trans (congrArg some kQ)⟩
 f47:=Tryz.func195.trans (congrArg some kQ)
 f48:=Tryz.func196.trans (congrArg some kQ)
 f49:=⟨Tryz.f197.name,by decide,Tryz.func197.trans (congrArg some kQ)⟩
 f50:=⟨Tryz.f198.name,by decide,Tryz.func198.trans (congrArg some kQ)⟩
 f57:=⟨Tryz.f199.name,by decide,Tryz.func199.trans (congrArg some kQ)⟩
 t0:=Tryz.underlying0
 a0:=Tryz.isAgg0
 z0:=Tryz.sizeOf0
 v0:=Tryz.zeroValue0
 t3:=Tryz.underlying3
 a3:=Tryz.isAgg3
 z3:=Tryz.sizeOf3
 v3:=Tryz.zeroValue3
 t4:=Tryz.underlying4
 a4:=Tryz.isAgg4
 z4:=Tryz.sizeOf4
 v4:=Tryz.zeroValue4
 t5:=Tryz.underlying5
 a5:=Tryz.isAgg5
 z5:=Tryz.sizeOf5
 v5:=Tryz.zeroValue5
 t9:=Tryz.underlying9
 a9:=Tryz.isAgg9
 z9:=Tryz.sizeOf9
 v9:=Tryz.zeroValue9
 t22:=Tryz.underlying217
 a22:=Tryz.isAgg217
 z22:=Tryz.sizeOf217
 v22:=Tryz.zeroValue217
 t25:=Tryz.underlying290
 a25:=Tryz.isAgg290
 z25:=Tryz.sizeOf290
 v25:=Tryz.zeroValue290
 t39:=Tryz.underlying184
 a39:=Tryz.isAgg184
 z39:=Tryz.sizeOf184
 v39:=Tryz.zeroValue184
 t45:=Tryz.underlying296
 a45:=Tryz.isAgg296
 z45:=Tryz.sizeOf296
 v45:=Tryz.zeroValue296
 t46:=Tryz.underlying297
 a46:=Tryz.isAgg297
 z46:=Tryz.sizeOf297
 v46:=Tryz.zeroValue297
 t50:=Tryz.underlying301
 a50:=Tryz.isAgg301
 z50:=Tryz.sizeOf301
 v50:=Tryz.zeroValue301
 t53:=Tryz.underlying209
 a53:=Tryz.isAgg209
 z53:=Tryz.sizeOf209
 v53:=Tryz.zeroValue209
 t55:=Tryz.underlying174
 a55:=Tryz.isAgg174
 z55:=Tryz.sizeOf174
 v55:=Tryz.zeroValue174
 t66:=Tryz.underlying303
 a66:=Tryz.isAgg303
 z66:=Tryz.sizeOf303
 v66:=Tryz.zeroValue303
 t70:=Tryz.underlying83
 a70:=Tryz.isAgg83
 z70:=Tryz.sizeOf83
 v70:=Tryz.zeroValue83
 t76:=Tryz.underlying308
 a76:=Tryz.isAgg308
 z76:=Tryz.sizeOf308
 v76:=Tryz.zeroValue308
 t77:=Tryz.underlying309
 a77:=Tryz.isAgg309
 z77:=Tryz.sizeOf309
 v77:=Tryz.zeroValue309 }
def V5:Go.Shelf.Ren:=⟨λ| 5=>183 | 7=>193 | n=>n,λ| 22=>3 | 3=>3 | 4=>4 | n=>n,λ| n=>n⟩
theorem aoq:Go.Proofs.SlLaysC2.n5 Tryz.prog V5:={
 mixed:=kQ
 f5:=⟨Tryz.f183.name,by decide,Tryz.func183.trans (congrArg some kQ)⟩
 f7:=⟨Tryz.f193.name,by decide,Tryz.func193.trans (congrArg some kQ)⟩
 t3:=Tryz.underlying3
 a3:=Tryz.isAgg3
 z3:=Tryz.sizeOf3
 v3:=Tryz.zeroValue3
 t4:=Tryz.underlying4
 a4:=Tryz.isAgg4
 z4:=Tryz.sizeOf4
 v4:=Tryz.zeroValue4
 t22:=Tryz.underlying3
 a22:=Tryz.isAgg3
 z22:=Tryz.sizeOf3
 v22:=Tryz.zeroValue3 }
end
open Go.Shelf
open ChangeShapes WideShapes ChangeAt RowKit
open Go.Sort (HoldsK PermIn SortedIn SWO grow)
instance:Inhabited gV:=⟨⟨0,0⟩⟩
def Lj (x y:gV):Int:=Lib.compareInt x.no y.no
theorem af0 (x y:gV):ltOf Lj x y=decide (x.no<y.no):=by
 unfold ltOf Lj Lib.compareInt;by_cases h1:x.no<y.no
 ·simp [h1]
 by_cases h2:y.no<x.no<;>simp [h1,h2]
theorem atN:SWO (ltOf Lj) where
 irrefl x:=by rw [af0];simp
 trans x y z h1 h2:=by rw [af0] at*;simp at*;omega
 ntrans x y z h1 h2:=by rw [af0] at*;simp at*;omega
theorem V6 (x y:gV) (W:World):Calls Tryz.prog 178 #[.agg #[.int .i64 x.no,.int .i64 x.body],.agg #[.int .i64 y.no,.int .i64 y.body]] W λe w'=>e= .returned (.int .i64 (Lj x y))/\ ∃ q os',w'=grow (W.drewN q) os':=by
 have hcon:=λW'=>AnyG.cmp_Compare_int aoq x.no y.no W';change ∀ W',Calls Tryz.prog 183 _ _ _ at hcon;unfold Lj;generalize Lib.compareInt x.no y.no=r at hcon⊢
 go_enter Tryz.func178,Tryz.ntmps178
 go_wp2_with (go_at_call 183;refine (hcon _).mono ?_;rintro e w' ⟨rfl,rfl⟩)
 go_ret
 exact ⟨rfl,0,_,by rw [Go.Sort.alloc_eq_grow,Go.Sort.alloc_eq_grow,Go.Sort.grow_grow];rfl⟩
theorem aor: ∀ w,(isAgg 273).run Tryz.prog w= .ok true w:=by
 intro w;simp [isAgg,run_underlying Tryz.underlying273,Sem.run_bind,Result.andThen]
theorem aiD: ∀ w,(Go.sizeOf 273).run Tryz.prog w= .ok 2 w:=by
 intro w;obtain ⟨z,hq,hs⟩: ∃ z,Tryz.prog.info? 273=some z/\z.size=2:=by
  have h:=ajU
  cases hi:Tryz.prog.info? 273 with
  | none=>simp [hi] at h
  | some z=>exact ⟨z,rfl,by simpa [hi] using h⟩
 simp [sizeOf,typeInfo,hq,hs,Sem.run_bind,Result.andThen]
def yJ (l:List gV):Prop:=l.Pairwise λa b=>a.no<=b.no
theorem Sr (A:Option Addr) (c:Nat) (rs:List gV) (w:World) {B:Nat} (ho:w.ownsRow B 273 2 (.slice A rs.length c) rs.length (rs.flatMap gV.cells)) (hl:rs.length<=1000000):
  Calls Tryz.prog 177 #[.slice A rs.length c,.func (.func 178) #[] #[]] w λe w'=>e= .returned (.tuple #[])/\ ∃ d:List gV,d.Perm rs/\yJ d/\
   w'.ownsRow B 273 2 (.slice A rs.length c) rs.length (d.flatMap gV.cells)/\w.grownBy w' (Value.slice A rs.length c).ownBlock:=by
 rcases Nat.eq_zero_or_pos rs.length with h0 | h0
 ·have e0:rs=[]:=List.length_eq_zero_iff.1 h0;subst e0;refine (AnyF.slices_SortFunc_none XM A c (.func (.func 178) #[] #[]) w).mono ?_;rintro e w' ⟨rfl,rfl⟩;exact ⟨rfl,[],List.Perm.refl _,List.Pairwise.nil,ho,⟨rfl,rfl,rfl,Nat.le_refl _,λ_ _ _=>rfl⟩⟩
 obtain ⟨g,rfl⟩:=D9 ho h0;have hg:g<w.heap.size:=DZ ho g rfl;have hH:=YO (enc:=gV.cells) (k:=2) (λ_=>rfl) ho rfl;have hcon:=AnyQ.slices_SortFunc XM 2 aor aiD gV.cells (λ_=>rfl) (λx v hv=>by simp [gV.cells] at hv;rcases hv with rfl | rfl<;>rfl) Lj atN 178 #[] g 0 c rs.toArray w eQ (λ_ _ _ _ x y=>V6 x y _) hH hg jQ;change Calls Tryz.prog 177 _ _ _ at hcon;rw [List.size_toArray] at hcon;refine hcon.mono ?_;rintro e w' ⟨rfl,d',m,os,hp,hs,rfl⟩;obtain ⟨p1,_,p3⟩:=hp
 replace p1:d'.size=rs.length:=p1
 obtain ⟨q1,q2⟩:=VR (enc:=gV.cells) (k:=2) (d':=d') (m:=m) (os:=os) (λ_=>rfl) ho p1;refine ⟨rfl,d'.toList,?_,?_,q1,q2⟩
 ·have e1:d'.extract 0 rs.length=d':=by rw [<-p1];exact Array.extract_size
  have e2:rs.toArray.extract 0 rs.length=rs.toArray:=by simp
  rw [e1,e2] at p3;simpa using p3
 unfold yJ;rw [List.pairwise_iff_getElem];intro i j hi hj hij;rw [Array.length_toList] at hi hj;have h:=hs i j (Nat.zero_le _) hij oQ;rw [af0,getElem!_pos d' j hj,getElem!_pos d' i hi] at h;simp only [Array.getElem_toList];simpa using h
theorem AQ (m:gV): ∀ l:List gV,(rH m l).Perm (m::l)
 | []=>List.Perm.refl _
 | x::l=>by
  unfold rH
  split
  ·exact List.Perm.refl _
  exact ((AQ m l).cons x).trans (List.Perm.swap m x l)
theorem Kn {m:gV}: ∀ {l:List gV},yJ l->yJ (rH m l)
 | [],_=>by simp [rH,yJ]
 | x::l,h=>by
  obtain ⟨h1,h2⟩:=List.pairwise_cons.1 h;unfold rH
  split
  ·rename_i hlt
   refine List.pairwise_cons.2 ⟨λy hy=>?_,h⟩
   rcases List.mem_cons.1 hy with e | e
   ·rw [e];omega
   have:=h1 y e;omega
  rename_i hlt
  refine List.pairwise_cons.2 ⟨λy hy=>?_,Kn h2⟩
  rcases List.mem_cons.1 ((AQ m l).mem_iff.1 hy) with e | e
  ·rw [e];omega
  exact h1 y e
theorem FQ: ∀ (ls:List Ls) (rs:List gV),(ls.foldl (λl x=>rH x.msg l) rs).Perm (rs++ls.map (·.msg))
 | [],rs=>by simp
 | x::ls,rs=>by
  rw [List.foldl_cons,List.map_cons];refine (FQ ls (rH x.msg rs)).trans ?_;refine ((AQ x.msg rs).append_right _).trans ?_;rw [List.cons_append];exact List.perm_middle.symm
theorem QS: ∀ (ls:List Ls) {rs:List gV},yJ rs->yJ (ls.foldl (λl x=>rH x.msg l) rs)
 | [],_,h=>h
 | _::ls,_,h=>QS ls (Kn h)
theorem aeh {rs d:List gV} {ls:List Ls} (hp:d.Perm (rs++ls.map (·.msg))) (ha:yJ d) (hA:yJ rs) (hN:(Au rs ls).Nodup):d=ls.foldl (λl x=>rH x.msg l) rs:=by
 have hF:=FQ ls rs;have hnd:((rs++ls.map (·.msg)).map (·.no)).Nodup:=by
  unfold Au at hN;rw [List.map_append,List.map_map];exact hN
 refine List.Perm.eq_of_pairwise (le:=λa b:gV=>a.no<=b.no) (λa b ha' hb' h1 h2=>?_) ha (QS ls hA) (hp.trans hF.symm);have m1:=hp.mem_iff.1 ha';have m2:=hF.mem_iff.1 hb';have e:a.no=b.no:=oQ;have:=List.pairwise_map.1 hnd;obtain ⟨i,hi,e1⟩:=List.getElem_of_mem m1;obtain ⟨j,hj,e2⟩:=List.getElem_of_mem m2;rw [List.pairwise_iff_getElem] at this
 rcases Nat.lt_trichotomy i j with h | h | h
 ·exact absurd (by rw [e1,e2];exact e) (this i j hi hj h)
 ·subst h;rw [<-e1,<-e2]
 exact absurd (by rw [e1,e2];exact e.symm) (this j i hj hi h)
end
section
open ChangeShapes WideShapes RowKit
def gW:Qd:=⟨0,0,0,[],[],jF⟩
def Qd.row (Q:Qd) (A1:Option Addr) (c1:Nat) (A2:Option Addr) (c2:Nat):Array Value:=cZ Q.ep Q.nx Q.gv (.slice A1 Q.ready.length c1) (.slice A2 Q.bH.length c2) Q.ws
noncomputable def Qd.fault (Q:Qd):Int:=jv Q.ep Q.nx Q.gv Q.ready Q.bH Q.ws
def stepM (Q:Qd) (e:Ev):Qd×jo×Bool:=
 if e.kind=1 then FP Q e.producer.toNat e.id e.body else if e.kind=2 then MS Q else if e.kind=3 then KY Q e.aL e.hno else UE Q
noncomputable def jS (Q:Qd) (e:Ev):Qd×jo×Bool×Int:=
 if Q.fault≠0 then (gW,iH,false,Q.fault) else if bL e≠0 then (gW,iH,false,bL e) else ((stepM Q e).1,(stepM Q e).2.1,(stepM Q e).2.2,0)
def aiE (w:World) (r:Qd×jo×Bool×Int) (e:Ending) (w':World):Prop:= ∃ A1 c1 A2 c2,e= .returned (.tuple #[.agg (cZ r.1.ep r.1.nx r.1.gv (.slice A1 r.1.ready.length c1) (.slice A2 r.1.bH.length c2) r.1.ws),r.2.1.val,.bool r.2.2.1,.int .i64 r.2.2.2])/\
 St w.heap.size w w' [.bI 2 A1 r.1.ready.length (r.1.ready.flatMap gV.cells),.bI 4 A2 r.1.bH.length (r.1.bH.flatMap Ls.cells)]
section
variable {ep nx gv p:Int} {rs:List gV} {ls:List Ls} {W:kN}
theorem XO (h:jv ep nx gv rs ls W=0):UD ep nx gv rs ls/\Jc W/\mQ nx (-1) rs=true/\oO ep nx gv (-1) ls=true/\(Au rs ls).Nodup:=by
 unfold jv at h
 split at h
 ·cases h
 split at h
 ·cases h
 split at h
 ·rename_i h1 h2 h3
  exact ⟨Classical.not_not.1 h1,Classical.not_not.1 h2,h3⟩
 cases h
theorem acD: ∀ {rs:List gV} {p:Int},mQ nx p rs=true->(∀ x∈rs,p<x.no)/\rs.Pairwise λa b=>a.no<b.no
 | [],_,_=>⟨λx hx=>by simp at hx,List.Pairwise.nil⟩
 | m::r,p,h=>by
  simp only [mQ,Bool.and_eq_true,decide_eq_true_eq] at h;obtain ⟨⟨_,h1⟩,h2⟩:=h;obtain ⟨h3,h4⟩:=acD h2;refine ⟨λx hx=>?_,List.pairwise_cons.2 ⟨h3,h4⟩⟩
  rcases List.mem_cons.1 hx with rfl | hx
  ·exact h1
  exact Int.lt_trans h1 (h3 x hx)
theorem aiF (h:mQ nx (-1) rs=true):yJ rs:=(acD h).2.imp λh=>Int.le_of_lt h
theorem abZ: ∀ {ls:List Ls} {p:Int},oO ep nx gv p ls=true->(∀ x∈ls,x.iC=ep/\p<x.hno)/\ls.Pairwise λa b=>a.hno<b.hno
 | [],_,_=>⟨λx hx=>by simp at hx,List.Pairwise.nil⟩
 | m::r,p,h=>by
  simp only [oO,MR,Bool.and_eq_true,decide_eq_true_eq] at h;obtain ⟨⟨_,h0,h1,_⟩,h2⟩:=h;obtain ⟨h3,h4⟩:=abZ h2;refine ⟨λx hx=>?_,List.pairwise_cons.2 ⟨λx hx=>(h3 x hx).2,h4⟩⟩
  rcases List.mem_cons.1 hx with rfl | hx
  ·exact ⟨h0,h1⟩
  exact ⟨(h3 x hx).1,Int.lt_trans h1 (h3 x hx).2⟩
theorem aos (h:oO ep nx gv (-1) ls=true): ∀ x∈ls,x.iC=ep:=λx hx=>((abZ h).1 x hx).1
theorem aot (h:oO ep nx gv (-1) ls=true): ∀ (i j:Nat) (a b:Ls),ls[i]? =some a->ls[j]? =some b->a.hno=b.hno->i=j:=by
 have hp:=(abZ h).2;rw [List.pairwise_iff_getElem] at hp;intro i j a b ha hb e;obtain ⟨hi,rfl⟩:=List.getElem?_eq_some_iff.1 ha;obtain ⟨hj,rfl⟩:=List.getElem?_eq_some_iff.1 hb
 rcases Nat.lt_trichotomy i j with h1 | h1 | h1
 ·have:=hp i j hi hj h1;omega
 ·exact h1
 have:=hp j i hj hi h1;omega
theorem aiG {e:Ev} (h:bL e=0):1<=e.kind/\e.kind<=4:=by
 unfold bL at h
 split at h
 ·cases h
 rename_i h1
 exact Classical.not_not.1 h1
theorem aiH {e:Ev} (h:bL e=0):0<=e.producer/\e.producer<=3:=by
 unfold bL at h
 split at h
 ·cases h
 split at h
 ·cases h
 rename_i h1 h2
 split at h
 ·cases h
 split at h
 ·cases h
 rename_i h3 h4
 by_cases hk:e.kind=1
 ·have h5:=Classical.not_not.1 (λh6=>h2 ⟨hk,h6⟩);simp only [Bool.and_eq_true,kC,decide_eq_true_eq] at h5;omega
 have h5:=Classical.not_not.1 (λh6=>h4 ⟨hk,h6⟩);omega
end
section
variable {Q:Qd} {e:Ev}
theorem aj9 (h:Q.fault≠0):jS Q e=(gW,iH,false,Q.fault):=if_pos h
theorem akb (h:Q.fault=0) (h1:bL e≠0):jS Q e=(gW,iH,false,bL e):=by
 unfold jS;rw [if_neg (λh2=>h2 h),if_pos h1]
theorem O6 (h:Q.fault=0) (h1:bL e=0):jS Q e=((stepM Q e).1,(stepM Q e).2.1,(stepM Q e).2.2,0):=by
 unfold jS;rw [if_neg (λh2=>h2 h),if_neg (λh2=>h2 h1)]
end
noncomputable def iJ:Qd->List jo->List Ev->Option (Qd×List jo)
 | Q,an,[]=>some (Q,an)
 | Q,an,e::r=>if (jS Q e).2.2.2=0/\(jS Q e).2.2.1=true then iJ (jS Q e).1 (an++[(jS Q e).2.1]) r else none
noncomputable def aP (l:List Ev):Qd×List jo×Int:=
 if 2000<l.length then (gW,[],1) else match iJ gW [] l with
  | some r=>(r.1,r.2,0)
  | none=>(gW,[],3)
section
variable {Q:Qd} {an:List jo} {l:List Ev} {e:Ev} {k:Nat}
theorem Sv (h:l[k]? =some e) (h0:(jS Q e).2.2.2=0) (h1:(jS Q e).2.2.1=true):iJ Q an (l.drop k)=iJ (jS Q e).1 (an++[(jS Q e).2.1]) (l.drop (k+1)):=by
 obtain ⟨hk,hm⟩:=List.getElem?_eq_some_iff.1 h;rw [List.drop_eq_getElem_cons hk,hm,iJ,if_pos ⟨h0,h1⟩]
theorem Sw (h:l[k]? =some e) (h0: ¬ ((jS Q e).2.2.2=0/\(jS Q e).2.2.1=true)):iJ Q an (l.drop k)=none:=by
 obtain ⟨hk,hm⟩:=List.getElem?_eq_some_iff.1 h;rw [List.drop_eq_getElem_cons hk,hm,iJ,if_neg h0]
theorem V7 (h:l.length<=k):iJ Q an (l.drop k)=some (Q,an):=by
 rw [List.drop_eq_nil_of_le h];rfl
theorem MU (h:2000<l.length):aP l=(gW,[],1):=if_pos h
theorem Ec {r:Qd×List jo} (h: ¬ 2000<l.length) (h1:iJ gW [] l=some r):aP l=(r.1,r.2,0):=by
 unfold aP;rw [if_neg h,h1]
theorem JJ (h: ¬ 2000<l.length) (h1:iJ gW [] l=none):aP l=(gW,[],3):=by
 unfold aP;rw [if_neg h,h1]
theorem gG (h:(aP l).2.2=0):l.length<=2000:=by
 unfold aP at h
 split at h
 ·cases h
 omega
theorem aei:(stepM Q e).1.ready.length+(stepM Q e).1.bH.length<=Q.ready.length+Q.bH.length+1:=by
 unfold stepM
 split
 ·unfold FP;split; · dsimp only;omega
  split; · dsimp only;omega
  split; · dsimp only;omega
  simp only [List.length_append,List.length_cons,List.length_nil];omega
 split
 ·obtain ⟨ep,nx,gv,rs,ls,W⟩:=Q
  cases rs with
  | nil=>simp [MS]
  | cons m r=>simp only [MS];split<;>simp<;>omega
 split
 ·unfold KY;split; · dsimp only;omega
  split; · dsimp only;omega
  have:=List.length_filter_le (λx:Ls=>decide (x.hno≠e.hno)) Q.bH;simp only;omega
 unfold UE;split; · dsimp only;omega
 have h:=(FQ Q.bH Q.ready).length_eq;rw [List.length_append,List.length_map] at h;simp only [List.length_nil];omega
theorem acE (h:(jS Q e).2.2.2=0):(jS Q e).1.ready.length+(jS Q e).1.bH.length<=501:=by
 by_cases h0:Q.fault=0
 ·by_cases h1:bL e=0
  ·rw [O6 h0 h1];have h2:=(XO h0).1;unfold UD at h2;have:=aei (Q:=Q) (e:=e);simp only;omega
  rw [akb h0 h1];simp [gW]
 rw [aj9 h0];simp [gW]
theorem Df: ∀ {l:List Ev} {Q:Qd} {an:List jo} {r:Qd×List jo},Q.ready.length+Q.bH.length<=501->iJ Q an l=some r->r.1.ready.length+r.1.bH.length<=501/\r.2.length=an.length+l.length
 | [],Q,an,r,hQ,h=>by
  simp only [iJ,Option.some.injEq] at h;subst h;exact ⟨hQ,by simp⟩
 | e::l,Q,an,r,hQ,h=>by
  rw [iJ] at h
  split at h
  ·rename_i hc
   obtain ⟨h1,h2⟩:=Df (acE hc.1) h;exact ⟨h1,by rw [h2];simp;omega⟩
  cases h
theorem V8:(aP l).1.ready.length+(aP l).1.bH.length<=501:=by
 unfold aP
 split
 ·simp [gW]
 split
 ·rename_i r hr
  exact (Df (by simp [gW]) hr).1
 simp [gW]
end
structure bK where
 role:Int
 ep:Int
 fr:Int
 tg:Int
 rd:Int
 evs:List Ev
 deriving DecidableEq
def bG:bK:=⟨0,0,0,0,0,[]⟩
def cO:Ev:=⟨4,0,0,0,0,0⟩
def bD (b:bK):Prop:=(b.role=0/\0<=b.ep/\b.ep<=1048576/\b.fr=0/\b.tg=0/\b.rd=0/\b.evs.length=0)\/(1<=b.ep/\b.ep<=1048576/\
 ((b.role=1/\b.fr=0/\b.tg=0/\b.rd=0)\/(b.role=2/\b.fr=0/\0<=b.tg/\b.tg<5/\0<=b.rd/\b.rd<=4)\/(b.role=3/\b.fr=0/\0<=b.tg/\b.tg<5/\b.rd=0)\/(b.role=4/\0<=b.fr/\b.fr<5/\b.tg=0/\b.rd=0)))
instance (b:bK):Decidable (bD b):=by unfold bD;exact inferInstance
open Classical in
noncomputable def aj (b:bK):Int:=if bD b/\(aP b.evs).2.2=0 then 0 else 6
section
variable {b:bK}
theorem mR (h:bD b) (h1:(aP b.evs).2.2=0):aj b=0:=if_pos ⟨h,h1⟩
theorem JK (h: ¬ bD b):aj b=6:=if_neg λh1=>h h1.1
theorem Ox (h: ¬ (aP b.evs).2.2=0):aj b=6:=if_neg λh1=>h h1.2
theorem eH (h:aj b=0):bD b/\(aP b.evs).2.2=0:=by
 unfold aj at h
 split at h
 ·assumption
 cases h
end
noncomputable def iK (b:bK) (e:Ev):bK×jo×Bool×Int:=
 if aj b≠0 then (bG,iH,false,aj b) else if bL e≠0 then (bG,iH,false,bL e) else if e.kind=4 then (bG,iH,false,3)
 else if b.role=3 then (b,rV 12,false,0) else if b.role≠1/\b.role≠2 then (b,rV 7,false,0)
 else if (jS (aP b.evs).1 e).2.2.1=false then (b,(jS (aP b.evs).1 e).2.1,false,0)
 else if 1999<=b.evs.length then (b,rV 14,false,0) else ({ b with evs:=b.evs++[e] },(jS (aP b.evs).1 e).2.1,true,0)
noncomputable def ji (b:bK) (ep:Int):bK×Int:=
 if aj b≠0 then (bG,aj b) else if ¬ (1<=ep/\ep<=1048576) then (bG,2) else if b.role≠0 then (bG,8) else if ep<=b.ep then (bG,15) else (⟨1,ep,0,0,0,[]⟩,0)
noncomputable def zH (b:bK) (tg:Int):bK×Int:=
 if aj b≠0 then (bG,aj b) else if ¬ (0<=tg/\tg<=4) then (bG,2) else if b.role=2\/b.role=3 then (bG,12) else if b.role≠1 then (bG,7)
 else if b.ep=1048576 then (bG,14) else (⟨2,b.ep,0,tg,0,b.evs⟩,0)
noncomputable def bM (b:bK) (hv:Int):bK×Int:=
 if aj b≠0 then (bG,aj b) else if b.role≠2/\b.role≠3 then (bG,7) else if ¬ (0<=hv/\hv<=b.evs.length) then (bG,2)
 else if b.role=3 then (b,0) else if hv=b.evs.length\/b.rd=4 then ({ b with role:=3,rd:=0 },0) else ({ b with rd:=b.rd+1 },0)
noncomputable def jD (b:bK) (hv:Int):List Ev×Bool×Int:=
 if aj b≠0 then ([],false,aj b) else if b.role≠2/\b.role≠3 then ([],false,7) else if ¬ (0<=hv/\hv<=b.evs.length) then ([],false,2)
 else ((b.evs.drop hv.toNat).take 3,decide (b.role=3/\b.evs.length<=hv.toNat+3),0)
noncomputable def dB (b:bK) (ep fr:Int):bK×Int:=
 if aj b≠0 then (bG,aj b) else if ¬ (1<=ep/\ep<=1048576/\0<=fr/\fr<=4) then (bG,2) else if b.role≠0/\b.role≠4 then (bG,8)
 else if b.role=4/\b.ep=ep/\b.fr=fr then (b,0) else if ep<=b.ep then (bG,15) else (⟨4,ep,fr,0,0,[]⟩,0)
noncomputable def dw (b:bK) (ep at_:Int) (l:List Ev) (last:Bool):bK×Int:=
 if aj b≠0 then (bG,aj b) else if b.role≠4 then (bG,7) else if b.ep≠ep then (bG,15) else if ¬ (0<=at_/\at_<=b.evs.length) then (bG,2)
 else if ¬ (b.evs.drop at_.toNat).take l.length=l.take (b.evs.length-at_.toNat) then (bG,3)
 else if last=true/\at_.toNat+l.length<b.evs.length then (bG,3)
 else if aj (if last=true then ⟨1,ep,0,0,0,b.evs++l.drop (b.evs.length-at_.toNat)++[cO]⟩ else { b with evs:=b.evs++l.drop (b.evs.length-at_.toNat) })≠0 then (bG,3)
 else (if last=true then ⟨1,ep,0,0,0,b.evs++l.drop (b.evs.length-at_.toNat)++[cO]⟩ else { b with evs:=b.evs++l.drop (b.evs.length-at_.toNat) },0)
noncomputable def fZ (b:bK) (ep:Int):bK×Int:=
 if aj b≠0 then (bG,aj b) else if b.role≠3 then (bG,7) else if ep<=b.ep then (bG,15) else (⟨0,b.ep,0,0,0,[]⟩,0)
noncomputable def fJ (b:bK):bK×Int:=
 if aj b≠0 then (bG,aj b) else if b.role≠1/\b.role≠2 then (b,0)
 else if aj ⟨1,b.ep,0,0,0,b.evs++[cO]⟩≠0 then (bG,14) else (⟨1,b.ep,0,0,0,b.evs++[cO]⟩,0)
theorem kL {α:Type} {a b:α} (h:a=b:=by (repeat' (first | rfl | omega | split))<;>(simp only [Prod.mk.injEq,bK.mk.injEq,and_true,true_and,and_self];omega)):a=b:=h
instance:yU gV where
 size:=2
 ints m:=[m.no,m.body]
 of xs:=⟨xs.getD 0 0,xs.getD 1 0⟩
 pos:=by decide
 len _:=rfl
 inv xs h:=by
  match xs,h with
  | [a,b],_=>rfl
instance:yU Ls where
 size:=4
 ints m:=[m.iC,m.hno,m.msg.no,m.msg.body]
 of xs:=⟨xs.getD 0 0,xs.getD 1 0,⟨xs.getD 2 0,xs.getD 3 0⟩⟩
 pos:=by decide
 len _:=rfl
 inv xs h:=by
  match xs,h with
  | [a,b,c,d],_=>rfl
theorem aej (l:List gV): ∀ u∈l.flatMap gV.cells,u.oneCell'=true:=EP l
theorem XP (l:List Ls): ∀ u∈l.flatMap Ls.cells,u.oneCell'=true:=EP l
end
section
abbrev bR (b:bK) (A:Option Addr) (c:Nat):Array Value:= #[iV b.role,iV b.ep,iV b.fr,iV b.tg,iV b.rd,.slice A b.evs.length c]
abbrev zB:Array Value:= #[iV 0,iV 0,iV 0,iV 0,iV 0,.slice none 0 0]
abbrev rR (k q e p:Int) (x:Ev):Array Value:= #[iV k,iV q,iV e,iV p,iV x.kind,iV x.producer,iV x.id,iV x.body,iV x.aL,iV x.hno]
end
section
open ChangeShapes WideShapes RowKit
section
variable {P:Program} {N:Nat} {l l':Slots} {w w' w0:World} {ops:Array Oper} {o:Oper} {rest:List Oper} {Q:Exit->Act->World->Prop} {d B:Nat} {v p:Value} {fs fs':List Fact} {b m f:Nat} {row row' cs:Array Value} {t ty:TypeId} {x y:Operand}
theorem saq (i:Nat) (S:St B w0 w fs) (hz:(P.info? ty).map (·.size)=some m) (h: ∀ w',St B w0 w' fs'->wL P N ops Q rest l w') (hw:o.guard=none:=by exact rfl) (hd:o.dst=none:=by exact rfl) (ho:o.op= .store ty x y:=by exact rfl)
  (hx:ev l x=some (.pointer (some ⟨b,0,none⟩)):=by exact rfl) (hy:ev l y=some v:=by exact rfl) (hi:fs[i]? =some (.blk b row t):=by exact rfl) (hv:v.cells=cs:=by exact rfl) (hm:cs.size=m:=by exact rfl)
  (h1: ∀ u∈cs.toList,u.oneCell'=true:=by exact JG rfl rfl) (hr:Nat.ble m row.size=true:=by exact rfl) (hs:row.size=cs.size:=by exact rfl) (hf:iR (.blk b cs t) fs i fs':=by repeat' first | exact iR.z | apply iR.s):wL P N ops Q (o::rest) l w:=
 fq i S (wn hw) hd ho hx hy hi hv hz hm h1 (by rw [Nat.zero_add];exact Nat.le_of_ble_eq_true hr) (lU hs) hf.eq h
theorem XQ {C:World->Prop} {n:Nat} {listed listed':Array Bool} (j:Nat) (hi':ops[j]? =some o) (i:Nat) (S:St B w0 w fs) (hz:(P.info? ty).map (·.size)=some m) (h: ∀ w',St B w0 w' fs'->C w'/\wA P N ops Q C n listed' l w') (hl:listed.setIfInBounds j true=listed':=by exact rfl)
  (hw:o.guard=none:=by exact rfl) (hd:o.dst=none:=by exact rfl) (ho:o.op= .store ty x y:=by exact rfl) (hx:ev l x=some (.pointer (some ⟨b,0,none⟩)):=by exact rfl) (hy:ev l y=some v:=by exact rfl) (hi:fs[i]? =some (.blk b row t):=by exact rfl) (hv:v.cells=cs:=by exact rfl)
  (hm:cs.size=m:=by exact rfl) (h1: ∀ u∈cs.toList,u.oneCell'=true:=by exact JG rfl rfl) (hr:Nat.ble m row.size=true:=by exact rfl) (hs:row.size=cs.size:=by exact rfl) (hf:iR (.blk b cs t) fs i fs':=by repeat' first | exact iR.z | apply iR.s):wK P N ops Q C n j listed l w:=
 sD hi' hl i S (wn hw) hd ho hx hy hi hv hz hm h1 (by rw [Nat.zero_add];exact Nat.le_of_ble_eq_true hr) (lU hs) hf.eq h
end
theorem Sy (d:Dir) (q node:Int) (w:World) (hn:Nw w):Calls Tryz.prog 63 #[d.val,.int .i64 q,.int .i64 node] w (XD w (wV d q node)):=by
 have HN:=Lib.hid hn;clear hn;have HC:=Lib.hid (λw h=>MN d q w h);have HR:Hid (wV d q node=if (qL d q).2≠0 then (kH,(qL d q).2) else if node<0\/4<node then (kH,2) else if (qL d q).1≠nowhere then (kH,8) else (d.set q.toNat ⟨node,1⟩,0)):=Lib.hid rfl;have HZ:=Lib.hid (YW (d:=d) (q:=q));generalize wV d q node=r at*;generalize qL d q=a at*;obtain ⟨⟨pn,pe⟩,z⟩:=a;have hq:=VW ⟨pn,pe⟩ nowhere;unfold nowhere at hq;simp only at hq;obtain ⟨⟨n0,e0⟩,⟨n1,e1⟩,⟨n2,e2⟩,⟨n3,e3⟩⟩:=d;unfold Dir.val at*
 try simp only at HC⊢
 go_enter Tryz.func63,Tryz.ntmps63
 go_wp2_with fail
 refine (HC.out _ (HN.out.on gQ)).mono ?_;rintro e w1 ⟨rfl,hb1⟩;have B0:=((fK.new w _ _).alloc _).below hb1 jQ;have B1:=(fK.new1 w _ _ _).below hb1 iQ;have hz0:w.heap.size<w1.heap.size:=B0.lt;have hz1:w.heap.size+1<w1.heap.size:=B1.lt;have HB1:Hid (Below w.heap.size w w1):=Lib.hid (Below.trans gQ (hb1.mono jQ))
 go_upto_region 2 with fail
 have C0:=B0.alloc (.cells #[.int .i64 pn,.int .i64 pe] 32);have C1:=B1.alloc (.cells #[.int .i64 pn,.int .i64 pe] 32);have C2:=fK.new w1 #[.int .i64 pn,.int .i64 pe] 32;have HB:Hid (Below w.heap.size w (w1.alloc (.cells #[.int .i64 pn,.int .i64 pe] 32))):=Lib.hid (HB1.out.alloc oQ _);generalize hw2:w1.alloc (.cells #[.int .i64 pn,.int .i64 pe] 32)=w2 at C0 C1 C2 HB⊢;clear hw2 HB1;obtain ⟨c0,c1,c2,c3,c4,c5,c6,c7,cf⟩:=C0.BM;obtain ⟨r0,r1,r2,r3,r4,r5,r6,r7,rf⟩:=C1.BM;obtain ⟨p0,p1,pf⟩:=C2.uW;have hne1: ¬ w1.heap.size=w.heap.size:=oQ;have hne2: ¬ w1.heap.size=w.heap.size+1:=oQ
 try simp only at HR HZ
 clear hb1;obtain ⟨g0,g1,g2⟩:=HN.out.on HB.out;by_cases hz:z=0
 ·obtain ⟨q0,q3⟩:=HZ.out hz;have HR2:=Lib.hid (HR.out.trans (if_neg (by simpa using hz)));subst hz;clear HR;by_cases b1:node<0
  ·have e:=HR2.out;rw [if_pos oQ] at e;subst e;clear hq
   go_wp2_with fail
   refine bodyPost_ret (v:= .tuple #[.agg #[.int .i64 0,.int .i64 0,.int .i64 0,.int .i64 0,.int .i64 0,.int .i64 0,.int .i64 0,.int .i64 0],.int .i64 2]) (by simp [results,Tryz.results63,go_sem,r0,r1,r2,r3,r4,r5,r6,r7]) rfl ?_;have hB:=HB.out;exact ⟨rfl,by go_grown⟩
  by_cases b2:5<=node
  ·have e:=HR2.out;rw [if_pos oQ] at e;subst e;clear hq
   go_wp2_with fail
   refine bodyPost_ret (v:= .tuple #[.agg #[.int .i64 0,.int .i64 0,.int .i64 0,.int .i64 0,.int .i64 0,.int .i64 0,.int .i64 0,.int .i64 0],.int .i64 2]) (by simp [results,Tryz.results63,go_sem,r0,r1,r2,r3,r4,r5,r6,r7]) rfl ?_;have hB:=HB.out;exact ⟨rfl,by go_grown⟩
  have HR3:=Lib.hid (HR2.out.trans (if_neg oQ));clear HR2;by_cases b3:(⟨pn,pe⟩:Pl)=nowhere
  ·have e:=HR3.out;rw [if_neg (by simpa using b3)] at e;subst e;have hd:decide ((⟨pn,pe⟩:Pl)=⟨-1,0⟩)=true:=by simpa [nowhere] using b3
   rw [hd] at hq;clear b3 hd HR3
   rcases (show q=0\/q=1\/q=2\/q=3 by omega) with rfl | rfl | rfl | rfl
   ·go_wp2_with fail
    refine bodyPost_ret (v:= .tuple #[.agg #[.int .i64 node,.int .i64 1,.int .i64 n1,.int .i64 e1,.int .i64 n2,.int .i64 e2,.int .i64 n3,.int .i64 e3],.int .i64 0]) (by simp [results,Tryz.results63,go_sem,r0,r1,r2,r3,r4,r5,r6,r7,c0,c1,c2,c3,c4,c5,c6,c7]) rfl ?_;have hB:=HB.out;exact ⟨rfl,by go_grown⟩
   ·go_wp2_with fail
    refine bodyPost_ret (v:= .tuple #[.agg #[.int .i64 n0,.int .i64 e0,.int .i64 node,.int .i64 1,.int .i64 n2,.int .i64 e2,.int .i64 n3,.int .i64 e3],.int .i64 0]) (by simp [results,Tryz.results63,go_sem,r0,r1,r2,r3,r4,r5,r6,r7,c0,c1,c2,c3,c4,c5,c6,c7]) rfl ?_;have hB:=HB.out;exact ⟨rfl,by go_grown⟩
   ·go_wp2_with fail
    refine bodyPost_ret (v:= .tuple #[.agg #[.int .i64 n0,.int .i64 e0,.int .i64 n1,.int .i64 e1,.int .i64 node,.int .i64 1,.int .i64 n3,.int .i64 e3],.int .i64 0]) (by simp [results,Tryz.results63,go_sem,r0,r1,r2,r3,r4,r5,r6,r7,c0,c1,c2,c3,c4,c5,c6,c7]) rfl ?_;have hB:=HB.out;exact ⟨rfl,by go_grown⟩
   go_wp2_with fail
   refine bodyPost_ret (v:= .tuple #[.agg #[.int .i64 n0,.int .i64 e0,.int .i64 n1,.int .i64 e1,.int .i64 n2,.int .i64 e2,.int .i64 node,.int .i64 1],.int .i64 0]) (by simp [results,Tryz.results63,go_sem,r0,r1,r2,r3,r4,r5,r6,r7,c0,c1,c2,c3,c4,c5,c6,c7]) rfl ?_;have hB:=HB.out;exact ⟨rfl,by go_grown⟩
  have e:=HR3.out;rw [if_pos b3] at e;subst e;have hd:decide ((⟨pn,pe⟩:Pl)=⟨-1,0⟩)=false:=by simpa [nowhere] using b3
  rw [hd] at hq;clear b3 hd HR3
  go_wp2_with fail
  refine bodyPost_ret (v:= .tuple #[.agg #[.int .i64 0,.int .i64 0,.int .i64 0,.int .i64 0,.int .i64 0,.int .i64 0,.int .i64 0,.int .i64 0],.int .i64 8]) (by simp [results,Tryz.results63,go_sem,r0,r1,r2,r3,r4,r5,r6,r7]) rfl ?_;have hB:=HB.out;exact ⟨rfl,by go_grown⟩
 have e:=HR.out;rw [if_pos hz] at e;subst e;have t0:(z==0)=false:=by simpa using hz
 have t0':(z != 0)=true:=by simpa using hz
 clear hz hq
 go_wp2_with fail
 refine bodyPost_ret (v:= .tuple #[.agg #[.int .i64 0,.int .i64 0,.int .i64 0,.int .i64 0,.int .i64 0,.int .i64 0,.int .i64 0,.int .i64 0],.int .i64 z]) (by simp [results,Tryz.results63,go_sem,r0,r1,r2,r3,r4,r5,r6,r7]) rfl ?_;have hB:=HB.out;exact ⟨rfl,by go_grown⟩
theorem St.jG {B:Nat} {w0 w:World} {fs:List Fact} {b n s:Nat} {row:Array Value} {t:TypeId} {xs:List Value} (i:Nat) (S:St B w0 w fs) (hi:fs[i]? =some (.blk b row t)) (hx:row.toList=xs) (hl:xs.length=n*s):St B w0 w (fs.set i (.bI s (some ⟨b,0,none⟩) n xs)):=
 St.turn i S hi S.low (Nat.le_refl _) (λ_ _ _=>rfl) ⟨St.lI i S hi hx hl,λa h=>by cases h;exact ⟨St.ge i S hi,St.lt i S hi⟩⟩ (λk hk=> .inl hk)
def bE (g:Nat) (p:Nat×Int):List Value:=[.pointer (some ⟨g,p.1,none⟩),.int .i64 p.2]
def bJ (kd ek:Int):ByteArray:=
 if kd=1 then ⟨#[109,97,107,101]⟩ else if kd=10 then ⟨#[109,111,118,101]⟩ else if kd=3 then ⟨#[115,116,101,112]⟩ else if kd=9 then ⟨#[115,116,97,114,116]⟩ else if kd=8 then ⟨#[99,114,97,115,104]⟩
 else if kd=4 then ⟨#[99,97,114,114,121]⟩ else if kd=5 then ⟨#[108,111,115,101]⟩ else if kd=6 then ⟨#[100,111,117,98,108,101]⟩ else if kd=7 then ⟨#[97,108,108]⟩
 else if kd=2 then (if ek=1 then ⟨#[112,117,98,108,105,115,104]⟩ else if ek=2 then ⟨#[114,101,99,101,105,118,101]⟩ else if ek=3 then ⟨#[97,99,107]⟩ else ⟨#[]⟩) else ⟨#[]⟩
def aek (w:World) (g:Nat) (u:ByteArray) (r:Option (List (Nat×Int))) (e:Ending) (w':World):Prop:=match r with
 | none=>e= .returned (.tuple #[.string u,.slice none 0 0,.bool false])/\Below w.heap.size w w'
 | some l=> ∃ A,e= .returned (.tuple #[.string u,.slice A l.length l.length,.bool true])/\St w.heap.size w w' [.bI 2 A l.length (l.flatMap (bE g))]
theorem aou (kd ek:Int) (h:aW kd ek=none):bJ kd ek=⟨#[]⟩:=by
 have h1:kd≠1:=λe=>by subst e;cases h
 have h10:kd≠10:=λe=>by subst e;cases h
 have h3:kd≠3:=λe=>by subst e;cases h
 have h9:kd≠9:=λe=>by subst e;cases h
 have h8:kd≠8:=λe=>by subst e;cases h
 have h4:kd≠4:=λe=>by subst e;cases h
 have h5:kd≠5:=λe=>by subst e;cases h
 have h6:kd≠6:=λe=>by subst e;cases h
 have h7:kd≠7:=λe=>by subst e;cases h
 unfold bJ;rw [if_neg h1,if_neg h10,if_neg h3,if_neg h9,if_neg h8,if_neg h4,if_neg h5,if_neg h6,if_neg h7];by_cases h2:kd=2
 ·subst h2;have e1:ek≠1:=λe=>by subst e;cases h
  have e2:ek≠2:=λe=>by subst e;cases h
  have e3:ek≠3:=λe=>by subst e;cases h
  rw [if_pos rfl,if_neg e1,if_neg e2,if_neg e3]
 rw [if_neg h2]
theorem Ac.ab0 (x:Ac) {i:Nat} (h:i<11):x.cells.toArray[i]? =some (.int .i64 (x.get i)):=by rw [List.getElem?_toArray];exact x.cell h
def acF (w:World) (y:Ac) (e:Ending) (w':World):Prop:=e= .returned (.agg y.cells.toArray)/\Below w.heap.size w w'
end
end Go.Proofs.YtcomidffhiilcaaGreatDoor
