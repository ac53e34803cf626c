import Derived.Shelf.SlicesG.Cmp
import Derived.Shelf.SlGeneric
import Derived.Ground.SlsfProg
import Derived.Ground.SlgcProg
import Derived.Scope
import Derived.Test.YtefabpdniidmbaaGreatDoorG0a494
import Derived.Test.YtefabpdniidmbaaGreatDoorG5a2f1
set_option linter.all false
set_option maxRecDepth 100000
set_option maxHeartbeats 8000000
namespace Go.Proofs.YtefabpdniidmbaaGreatDoor
open List Nat Go.Proofs.Tryz
section
open ChangeShapes WideShapes RowKit
structure gy where
 no:Int
 body:Int
 deriving DecidableEq
structure Ls where
 fG:Int
 hno:Int
 msg:gy
 deriving DecidableEq
structure kK where
 a:kY
 b:kY
 c:kY
 d:kY
 deriving DecidableEq
structure Qd where
 ep:Int
 nx:Int
 gv:Int
 ready:List gy
 bL:List Ls
 ws:kK
 deriving DecidableEq
def gy.cells (m:gy):List Value:=[D m.no,D m.body]
def Ls.cells (x:Ls):List Value:=[D x.fG,D x.hno,D x.msg.no,D x.msg.body]
def kK.cells (x:kK):List Value:=x.a.cells++(x.b.cells++(x.c.cells++x.d.cells))
def kK.at (x:kK)(p:Nat):kY:=if p=0 then x.a else if p=1 then x.b else if p=2 then x.c else x.d
def kK.put (x:kK)(p:Nat)(y:kY):kK:=if p=0 then{x with a:=y}else if p=1 then{x with b:=y}else if p=2 then{x with c:=y}else{x with d:=y}
def kK.len (x:kK):x.cells.length=36:=rfl
def kY.len (x:kY):x.cells.length=9:=rfl
def dx (e n g:Int)(r l:Value)(W:kK):Array Value:=(D e::D n::D g::r::l::W.cells).toArray
def jG:kK:=⟨AV,AV,AV,AV⟩
section
variable {e n g:Int}{r l:Value}{W:kK}
def xK:(dx e n g r l W).size=41:=rfl
def yc:(dx e n g r l W)[0]? =some (D e):=rfl
def Bb:(dx e n g r l W)[1]? =some (D n):=rfl
def Bc:(dx e n g r l W)[2]? =some (D g):=rfl
def qd:(dx e n g r l W)[3]? =some r:=rfl
def sZ:(dx e n g r l W)[4]? =some l:=rfl
def ajX:∀(j:Nat) (u:Value),W.cells[j]? =some u->(dx e n g r l W)[5+j]? =some u:=oK (m:=36) E
def ajY:∀(j:Nat) (u:Value),(W.at 0).cells[j]? =some u->(dx e n g r l W)[5+j]? =some u:=oK (m:=9) E
def ajZ:∀(j:Nat) (u:Value),(W.at 1).cells[j]? =some u->(dx e n g r l W)[14+j]? =some u:=oK (m:=9) E
def aj0:∀(j:Nat) (u:Value),(W.at 2).cells[j]? =some u->(dx e n g r l W)[23+j]? =some u:=oK (m:=9) E
def aj1:∀(j:Nat) (u:Value),(W.at 3).cells[j]? =some u->(dx e n g r l W)[32+j]? =some u:=oK (m:=9) E
def aj2 {z:Int}:cZ (dx e n g r l W) 0 [D z]=dx z n g r l W:=rfl
def aj3 {z:Int}:cZ (dx e n g r l W) 1 [D z]=dx e z g r l W:=rfl
def Zo {z:Int}:cZ (dx e n g r l W) 2 [D z]=dx e n z r l W:=rfl
def II {z:Value}:cZ (dx e n g r l W) 3 [z]=dx e n g z l W:=rfl
def IJ {z:Value}:cZ (dx e n g r l W) 4 [z]=dx e n g r z W:=rfl
def aj4 {x:kY}:cZ (dx e n g r l W) 5 x.cells=dx e n g r l (W.put 0 x):=by
 apply Array.toList_inj.1;rw[iq _ _ _ (by rw[xK,kY.len];omega)];rfl
def aj5 {x:kY}:cZ (dx e n g r l W) 14 x.cells=dx e n g r l (W.put 1 x):=by
 apply Array.toList_inj.1;rw[iq _ _ _ (by rw[xK,kY.len];omega)];rfl
def aj6 {x:kY}:cZ (dx e n g r l W) 23 x.cells=dx e n g r l (W.put 2 x):=by
 apply Array.toList_inj.1;rw[iq _ _ _ (by rw[xK,kY.len];omega)];rfl
def aj7 {x:kY}:cZ (dx e n g r l W) 32 x.cells=dx e n g r l (W.put 3 x):=by
 apply Array.toList_inj.1;rw[iq _ _ _ (by rw[xK,kY.len];omega)];rfl
def IK (x:kY):∀u∈x.cells,u.oneCell'=true:=bP E
def afL (x:kK):∀u∈x.cells,u.oneCell'=true:=bP E
def J4 (I:r.oneCell'=true)(J:l.oneCell'=true):∀u∈(dx e n g r l W).toList,u.oneCell'=true:=by
 intro u h;simp only[dx,mem_cons]at h
 rcases h with rfl|rfl|rfl|rfl|rfl|h
 ·rfl
 ·rfl
 ·rfl
 ·exact I
 ·exact J
 exact afL W u h
end
def WM (w:World)(k:Int)(e:Ending)(w':World):Prop:=e=.returned (D k)/\Below w.heap.size w w'
def Fp (w:World)(b:Bool)(e:Ending)(w':World):Prop:=e=.returned (.bool b)/\Below w.heap.size w w'
def rD (nx:Int)(m:gy):Bool:=decide (0<=m.no/\m.no<nx/\0<=m.body/\m.body<=1000000)
def wZ {nx:Int}{m:gy}(h:rD nx m=true):0<=m.no/\m.no<nx/\0<=m.body/\m.body<=1000000:=of_decide_eq_true h
def ko (nx:Int):Int->List gy->Bool
 |_,[]=>true
 |p,m::r=>(rD nx m&&decide (p<m.no))&&ko nx m.no r
def LK (ep nx gv p:Int)(x:Ls):Bool:=rD nx x.msg&&decide (x.fG=ep/\p<x.hno/\x.hno<gv)
def lV (ep nx gv:Int):Int->List Ls->Bool
 |_,[]=>true
 |p,x::r=>LK ep nx gv p x&&lV ep nx gv x.hno r
def nY (rs:List gy)(ls:List Ls):List Int:=rs.map (·.no)++ls.map (·.msg.no)
def RU (ep nx gv:Int)(rs:List gy)(ls:List Ls):Prop:=0<=ep/\ep<=1048576/\0<=nx/\nx<=1073741824/\0<=gv/\gv<=1073741824/\rs.length+ls.length<=500
def zG (W:kK):Prop:= ∀j,j<4->dN (W.at j)=0
open Classical in
noncomputable def fZ (ep nx gv:Int)(rs:List gy)(ls:List Ls)(W:kK):Int:=
 if ¬RU ep nx gv rs ls then 6 else if ¬zG W then 6 else if ko nx (-1) rs=true/\lV ep nx gv (-1) ls=true/\(nY rs ls).Nodup then 0 else 6
section
variable {ep nx gv p:Int}{rs:List gy}{ls:List Ls}{W:kK}
def Cu (h:¬(0<=ep/\ep<=1048576/\0<=nx/\nx<=1073741824/\0<=gv/\gv<=1073741824/\rs.length+ls.length<=500)):fZ ep nx gv rs ls W=6:=if_pos h
def zH (h:¬(zG W/\ko nx (-1) rs=true/\lV ep nx gv (-1) ls=true/\(nY rs ls).Nodup)):fZ ep nx gv rs ls W=6:=by
 unfold fZ
 split
 ·rfl
 split
 ·rfl
 rename_i h1 I
 rw[if_neg (λJ=>h ⟨Classical.not_not.1 I,J⟩)]
def aqa {j:Nat}(I:j<4)(h:dN (W.at j)≠0):fZ ep nx gv rs ls W=6:=zH λh1=>h (h1.1 j I)
def avM (I:RU ep nx gv rs ls)(h1:zG W)(J:ko nx (-1) rs=true)(M:lV ep nx gv (-1) ls=true)(O:(nY rs ls).Nodup):fZ ep nx gv rs ls W=0:=by
 unfold fZ;rw[if_neg (λh=>h I),if_neg (λh=>h h1),if_pos ⟨J,M,O⟩]
def J5 {k:Nat}{m:gy}(h:rs[k]? =some m):ko nx p (rs.drop k)=((rD nx m&&decide (p<m.no))&&ko nx m.no (rs.drop (k+1))):=by
 obtain⟨I,J⟩:=List.getElem?_eq_some_iff.1 h;rw[drop_eq_getElem_cons I,J];rfl
def D9 {k:Nat}{x:Ls}(h:ls[k]? =some x):lV ep nx gv p (ls.drop k)=(LK ep nx gv p x&&lV ep nx gv x.hno (ls.drop (k+1))):=by
 obtain⟨I,J⟩:=List.getElem?_eq_some_iff.1 h;rw[drop_eq_getElem_cons I,J];rfl
def J6 {α β:Type}{f:α->β}{l:List α}{k:Nat}{x:α}(h:l[k]? =some x):(l.take k).map f++[f x]=(l.take (k+1)).map f:=by
 rw[take_add_one,h];simp
def aj8 (x:kY):dN x=0\/dN x=6:=by unfold dN;split<;>simp
end
def UD (W:kK)(w:World):(Instr.index 181 (.agg W.cells.toArray) (D 0)).run prog w=.ok (.agg (W.at 0).cells.toArray) w:=kQ
def UE (W:kK)(w:World):(Instr.index 181 (.agg W.cells.toArray) (D 1)).run prog w=.ok (.agg (W.at 1).cells.toArray) w:=kQ
def UF (W:kK)(w:World):(Instr.index 181 (.agg W.cells.toArray) (D 2)).run prog w=.ok (.agg (W.at 2).cells.toArray) w:=kQ
def UG (W:kK)(w:World):(Instr.index 181 (.agg W.cells.toArray) (D 3)).run prog w=.ok (.agg (W.at 3).cells.toArray) w:=kQ
def XY (W:kK)(k:Nat)(I:k<4)(w:World):(Instr.index 181 (.agg W.cells.toArray) (D k)).run prog w=.ok (.agg (W.at k).cells.toArray) w:=by
 have h:k=0\/k=1\/k=2\/k=3:=Y
 rcases h with rfl|rfl|rfl|rfl
 ·exact UD W w
 ·exact UE W w
 ·exact UF W w
 exact UG W w
def aj9 {e n g:Int}{r l:Value}{W:kK}{k:Nat}(I:k<4):∀(j:Nat) (u:Value),(W.at k).cells[j]? =some u->(dx e n g r l W)[5+k*9+j]? =some u:=by
 have h:k=0\/k=1\/k=2\/k=3:=Y
 rcases h with rfl|rfl|rfl|rfl
 ·exact ajY
 ·exact ajZ
 ·exact aj0
 exact aj1
def jy {α:Type}{enc:α->List Value}{l l':List α}{x:α}{cs:List Value}(h:l++[x]=l')(he:enc x=cs):l.flatMap enc++cs=l'.flatMap enc:=by
 subst h;subst he;simp
structure iR where
 code:Int
 fG:Int
 hno:Int
 body:Int
 deriving DecidableEq
def eT:iR:=⟨0,0,0,0⟩
def sw (k:Int):iR:=⟨k,0,0,0⟩
def iR.cells (a:iR):List Value:=[D a.code,D a.fG,D a.hno,D a.body]
def iR.val (a:iR):Value:=.agg #[D a.code,D a.fG,D a.hno,D a.body]
def BG (Q:Qd)(k:Nat)(id bd:Int):Qd×iR×Bool:=
 if (iY (Q.ws.at k) id).2.2≠0 then(Q,sw (iY (Q.ws.at k) id).2.2,false)
 else if (iY (Q.ws.at k) id).2.1=false then(Q,eT,false)
 else if Q.ready.length+Q.bL.length=500\/Q.nx=1073741824 then(Q,sw 14,false)
 else(⟨Q.ep,Q.nx+1,Q.gv,Q.ready++[⟨Q.nx,bd⟩],Q.bL,Q.ws.put k (iY (Q.ws.at k) id).1⟩,eT,true)
def Gl (Q:Qd):Qd×iR×Bool:=match Q.ready with
 |[]=>(Q,sw 10,false)
 |m::rest=>if Q.gv=1073741824 then(Q,sw 14,false)else(⟨Q.ep,Q.nx,Q.gv+1,rest,Q.bL++[⟨Q.ep,Q.gv,m⟩],Q.ws⟩,⟨0,Q.ep,Q.gv,m.body⟩,true)
def Ew (Q:Qd)(he hn:Int):Qd×iR×Bool:=
 if he≠Q.ep then(Q,sw 11,false)
 else if (Q.bL.filter λx=>decide (x.hno≠hn)).length=Q.bL.length then(Q,sw 7,false)
 else(⟨Q.ep,Q.nx,Q.gv,Q.ready,Q.bL.filter λx=>decide (x.hno≠hn),Q.ws⟩,eT,true)
def kr (m:gy):List gy->List gy
 |[]=>[m]
 |x::l=>if m.no<x.no then m::x::l else x::kr m l
def Ey (Q:Qd):Qd×iR×Bool:=
 if Q.ep=1048576 then(Q,sw 14,false)
 else(⟨Q.ep+1,Q.nx,0,Q.bL.foldl (λl x=>kr x.msg l) Q.ready,[],Q.ws⟩,eT,true)
section
variable {ep nx gv bd id he hn:Int}{rs:List gy}{ls:List Ls}{W:kK}{k:Nat}
def akb (h:¬(iY (W.at k) id).2.2=0):BG ⟨ep,nx,gv,rs,ls,W⟩ k id bd=(⟨ep,nx,gv,rs,ls,W⟩,sw (iY (W.at k) id).2.2,false):=if_pos h
def akc (h:(iY (W.at k) id).2.2=0)(h1:(iY (W.at k) id).2.1=false):BG ⟨ep,nx,gv,rs,ls,W⟩ k id bd=(⟨ep,nx,gv,rs,ls,W⟩,eT,false):=by
 unfold BG;rw[if_neg (λI=>I h),if_pos h1]
def SH (h:(iY (W.at k) id).2.2=0)(h1:(iY (W.at k) id).2.1=true)(I:rs.length+ls.length=500\/nx=1073741824):BG ⟨ep,nx,gv,rs,ls,W⟩ k id bd=(⟨ep,nx,gv,rs,ls,W⟩,sw 14,false):=by
 unfold BG;rw[if_neg (λI=>I h),if_neg (λJ=>by rw[h1]at J;cases J),if_pos I]
def aqb (h:(iY (W.at k) id).2.2=0)(h1:(iY (W.at k) id).2.1=true)(I:¬(rs.length+ls.length=500\/nx=1073741824)):BG ⟨ep,nx,gv,rs,ls,W⟩ k id bd=(⟨ep,nx+1,gv,rs++[⟨nx,bd⟩],ls,W.put k (iY (W.at k) id).1⟩,eT,true):=by
 unfold BG;rw[if_neg (λI=>I h),if_neg (λJ=>by rw[h1]at J;cases J),if_neg I]
def afM (h:rs.length=0):Gl ⟨ep,nx,gv,rs,ls,W⟩=(⟨ep,nx,gv,rs,ls,W⟩,sw 10,false):=by
 cases rs with
 |nil=>rfl
 |cons m r=>simp at h
def afN (h:¬rs.length=0)(h1:gv=1073741824):Gl ⟨ep,nx,gv,rs,ls,W⟩=(⟨ep,nx,gv,rs,ls,W⟩,sw 14,false):=by
 cases rs with
 |nil=>simp at h
 |cons m r=>exact if_pos h1
def aqc {m:gy}(h:rs[0]? =some m)(h1:¬gv=1073741824):Gl ⟨ep,nx,gv,rs,ls,W⟩=(⟨ep,nx,gv+1,rs.drop 1,ls++[⟨ep,gv,m⟩],W⟩,⟨0,ep,gv,m.body⟩,true):=by
 cases rs with
 |nil=>simp at h
 |cons m r=>
  simp at h;subst h;exact if_neg h1
def aaW (h:¬he=ep):Ew ⟨ep,nx,gv,rs,ls,W⟩ he hn=(⟨ep,nx,gv,rs,ls,W⟩,sw 11,false):=if_pos h
def afO (h:he=ep)(h1:(ls.filter λx=>decide (x.hno≠hn)).length=ls.length):Ew ⟨ep,nx,gv,rs,ls,W⟩ he hn=(⟨ep,nx,gv,rs,ls,W⟩,sw 7,false):=by
 unfold Ew;rw[if_neg (λI=>I h),if_pos h1]
def aqd (h:he=ep)(h1:¬(ls.filter λx=>decide (x.hno≠hn)).length=ls.length):Ew ⟨ep,nx,gv,rs,ls,W⟩ he hn=(⟨ep,nx,gv,rs,ls.filter λx=>decide (x.hno≠hn),W⟩,eT,true):=by
 unfold Ew;rw[if_neg (λI=>I h),if_neg h1]
def afP (h:ep=1048576):Ey ⟨ep,nx,gv,rs,ls,W⟩=(⟨ep,nx,gv,rs,ls,W⟩,sw 14,false):=if_pos h
def aqe (h:¬ep=1048576):Ey ⟨ep,nx,gv,rs,ls,W⟩=(⟨ep+1,nx,0,ls.foldl (λl x=>kr x.msg l) rs,[],W⟩,eT,true):=if_neg h
end
def akd {e n g:Int}{r l:Value}{W:kK}{x:kY}{k:Nat}(h:k<4):cZ (dx e n g r l W) (5+k*9) x.cells=dx e n g r l (W.put k x):=by
 match k,h with
 | 0,_=>exact aj4
 | 1,_=>exact aj5
 | 2,_=>exact aj6
 | 3,_=>exact aj7
def Ez (B:Nat)(w0:World)(g:Nat)(fs:List Fact)(r:Qd×iR×Bool)(e:Ending)(w':World):Prop:=
 e=.returned (.tuple #[r.2.1.val,.bool r.2.2])/\ ∃A1 c1 A2 c2,St B w0 w' (.blk g (dx r.1.ep r.1.nx r.1.gv (.slice A1 r.1.ready.length c1) (.slice A2 r.1.bL.length c2) r.1.ws) 219:: .cK 2 A1 r.1.ready.length (r.1.ready.flatMap gy.cells):: .cK 4 A2 r.1.bL.length (r.1.bL.flatMap Ls.cells)::fs)
end
section
section
open Go.Shelf Go.RowKit Go.Lib Go.Sort
def UH:Go.Shelf.Ren:=⟨λ| 6=>131| 15=>136| 14=>135| 28=>146| 29=>147| 20=>138| 21=>139| 22=>140| 23=>141| 24=>142| 25=>143| 26=>144| 27=>145| 46=>149| 47=>150| 48=>151| 49=>152| 50=>153| 57=>154|n=>n,λ| 22=>176| 24=>222| 25=>239| 3=>3| 39=>166| 0=>0| 53=>253| 55=>255| 4=>4| 46=>247| 45=>246| 50=>58| 5=>5| 9=>9| 66=>256| 70=>112| 76=>261| 77=>81|n=>n,λ|n=>n⟩
def Zp:Go.Proofs.SlLaysF0.n6 prog UH:={
 mixed:=kQ
 f6:=⟨Tryz.f131.name,by decide,Tryz.func131.trans (congrArg some kQ)⟩
 f14:=⟨Tryz.f135.name,by decide,Tryz.func135.trans (congrArg some kQ)⟩
 f15:=Tryz.func136.trans (congrArg some kQ)
 f20:=⟨Tryz.f138.name,by decide,Tryz.func138.trans (congrArg some kQ)⟩
 f21:=⟨Tryz.f139.name,by decide,Tryz.func139.trans (congrArg some kQ)⟩
 f22:=⟨Tryz.f140.name,by decide,Tryz.func140.trans (congrArg some kQ)⟩
 f23:=⟨Tryz.f141.name,by decide,Tryz.func141.trans (congrArg some kQ)⟩
 f24:=⟨Tryz.f142.name,by decide,Tryz.func142.trans (congrArg some kQ)⟩
 f25:=⟨Tryz.f143.name,by decide,Tryz.func143.trans (congrArg some kQ)⟩
 f26:=⟨Tryz.f144.name,by decide,Tryz.func144.trans (congrArg some kQ)⟩
 f27:=⟨Tryz.f145.name,by decide,Tryz.func145.trans (congrArg some kQ)⟩
 f28:=Tryz.func146.trans (congrArg some kQ)
 f29:=Tryz.func147.trans (congrArg some kQ)
 f46:=⟨Tryz.f149.name,by decide,Tryz.func149.trans (congrArg some kQ)⟩
 f47:=Tryz.func150.trans (congrArg some kQ)
 f48:=Tryz.func151.trans (congrArg some kQ)
 f49:=⟨Tryz.f152.name,by decide,Tryz.func152.trans (congrArg some kQ)⟩
 f50:=⟨Tryz.f153.name,by decide,Tryz.func153.trans (congrArg some kQ)⟩
 f57:=⟨Tryz.f154.name,by decide,Tryz.func154.trans (congrArg some kQ)⟩
 t0:=Tryz.underlying0
 a0:=Tryz.isAgg0
 z0:=Tryz.sizeOf0
 v0:=Tryz.zeroValue0
 t3:=underlying3
 a3:=Tryz.isAgg3
 z3:=Tryz.sizeOf3
 v3:=zeroValue3
 t4:=underlying4
 a4:=Tryz.isAgg4
 z4:=Tryz.sizeOf4
 v4:=Tryz.zeroValue4
 t5:=underlying5
 a5:=Tryz.isAgg5
 z5:=Tryz.sizeOf5
 v5:=Tryz.zeroValue5
 t9:=Tryz.underlying9
 a9:=Tryz.isAgg9
 z9:=Tryz.sizeOf9
 v9:=Tryz.zeroValue9
 t22:=underlying176
 a22:=Tryz.isAgg176
 z22:=Tryz.sizeOf176
 v22:=Tryz.zeroValue176
 t25:=Tryz.underlying239
 a25:=Tryz.isAgg239
 z25:=Tryz.sizeOf239
 v25:=Tryz.zeroValue239
 t39:=Tryz.underlying166
 a39:=Tryz.isAgg166
 z39:=Tryz.sizeOf166
 v39:=Tryz.zeroValue166
 t45:=Tryz.underlying246
 a45:=Tryz.isAgg246
 z45:=Tryz.sizeOf246
 v45:=Tryz.zeroValue246
 t46:=Tryz.underlying247
 a46:=Tryz.isAgg247
 z46:=Tryz.sizeOf247
 v46:=Tryz.zeroValue247
 t50:=Tryz.underlying58
 a50:=Tryz.isAgg58
 z50:=Tryz.sizeOf58
 v50:=Tryz.zeroValue58
 t53:=Tryz.underlying253
 a53:=Tryz.isAgg253
 z53:=Tryz.sizeOf253
 v53:=Tryz.zeroValue253
 t55:=Tryz.underlying255
 a55:=Tryz.isAgg255
 z55:=Tryz.sizeOf255
 v55:=Tryz.zeroValue255
 t66:=Tryz.underlying256
 a66:=Tryz.isAgg256
 z66:=Tryz.sizeOf256
 v66:=Tryz.zeroValue256
 t70:=underlying112
 a70:=Tryz.isAgg112
 z70:=Tryz.sizeOf112
 v70:=Tryz.zeroValue112
 t76:=Tryz.underlying261
 a76:=Tryz.isAgg261
 z76:=Tryz.sizeOf261
 v76:=Tryz.zeroValue261
 t77:=Tryz.underlying81
 a77:=Tryz.isAgg81
 z77:=Tryz.sizeOf81
 v77:=Tryz.zeroValue81}
def XZ:Go.Shelf.Ren:=⟨λ| 5=>137| 7=>148|n=>n,λ| 22=>3| 3=>3| 4=>4|n=>n,λ|n=>n⟩
def aqf:Go.Proofs.SlLaysC2.n5 prog XZ:={
 mixed:=kQ
 f5:=⟨Tryz.f137.name,by decide,Tryz.func137.trans (congrArg some kQ)⟩
 f7:=⟨Tryz.f148.name,by decide,Tryz.func148.trans (congrArg some kQ)⟩
 t3:=underlying3
 a3:=Tryz.isAgg3
 z3:=Tryz.sizeOf3
 v3:=zeroValue3
 t4:=underlying4
 a4:=Tryz.isAgg4
 z4:=Tryz.sizeOf4
 v4:=Tryz.zeroValue4
 t22:=underlying3
 a22:=Tryz.isAgg3
 z22:=Tryz.sizeOf3
 v22:=zeroValue3}
end
open Go.Shelf
open ChangeShapes WideShapes ChangeAt RowKit
open Go.Sort (HoldsK PermIn SortedIn SWO grow)
instance:Inhabited gy:=⟨⟨0,0⟩⟩
def Ms (x y:gy):Int:=Lib.compareInt x.no y.no
def ahF (x y:gy):ltOf Ms x y=decide (x.no<y.no):=by
 unfold ltOf Ms Lib.compareInt;by_cases h1:x.no<y.no
 ·simp[h1]
 by_cases h:y.no<x.no<;>simp[h1,h]
def avN:SWO (ltOf Ms) where
 irrefl x:=by rw[ahF];simp
 trans x y z h1 h2:=by rw[ahF]at*;simp at*;omega
 ntrans x y z h1 h2:=by rw[ahF]at*;simp at*;omega
def X0 (x y:gy)(W:World):Calls prog 132 #[.agg #[.int .i64 x.no,.int .i64 x.body],.agg #[.int .i64 y.no,.int .i64 y.body]] W λe w'=>e=.returned (.int .i64 (Ms x y))/\ ∃q os',w'=grow (W.drewN q) os':=by
 have hcon:=λW'=>AnyG.cmp_Compare_int aqf x.no y.no W';change ∀W',Calls prog 137 _ _ _ at hcon;unfold Ms;generalize Lib.compareInt x.no y.no=r at hcon⊢
 go_enter Tryz.func132,Tryz.ntmps132
 go_wp2_with (go_at_call 137;refine(hcon _).mono ?_;rintro e w' ⟨rfl,rfl⟩)
 go_ret
 exact⟨E,0,_,by rw[Go.Sort.alloc_eq_grow,Go.Sort.alloc_eq_grow,Go.Sort.grow_grow];rfl⟩
def aqg:∀w,(isAgg 222).run prog w=.ok true w:=by
 intro w;simp[isAgg,run_underlying underlying222,Sem.run_bind,Result.andThen]
def ake:∀w,(Go.sizeOf 222).run prog w=.ok 2 w:=by
 intro w;obtain⟨z,I,hs⟩:∃z,prog.info? 222=some z/\z.size=2:=by
  have h:=alX
  cases hi:prog.info? 222 with
  |none=>simp[hi]at h
  |some z=>exact⟨z,E,by simpa[hi]using h⟩
 simp[sizeOf,typeInfo,I,hs,Sem.run_bind,Result.andThen]
def rE (l:List gy):Prop:=l.Pairwise λa b=>a.no<=b.no
def UJ (A:Option Addr)(c:Nat)(rs:List gy)(w:World){B:Nat}(J:w.ownsRow B 222 2 (.slice A rs.length c) rs.length (rs.flatMap gy.cells))(hl:rs.length<=1000000):
  Calls prog 131 #[.slice A rs.length c,.func (.func 132) #[] #[]] w λe w'=>e=.returned (.tuple #[])/\ ∃d:List gy,d.Perm rs/\rE d/\
   w'.ownsRow B 222 2 (.slice A rs.length c) rs.length (d.flatMap gy.cells)/\w.grownBy w' (Value.slice A rs.length c).ownBlock:=by
 rcases eq_zero_or_pos rs.length with M|M
 ·have e0:rs=[]:=length_eq_zero_iff.1 M;subst e0;refine(AnyF.slices_SortFunc_none Zp A c (.func (.func 132) #[] #[]) w).mono ?_;rintro e w' ⟨rfl,rfl⟩;exact⟨E,[],Perm.refl _,Pairwise.nil,J,⟨E,E,E,Nat.le_refl _,λ_ _ _=>E⟩⟩
 obtain⟨g,rfl⟩:=Et J M;have hg:g<w.heap.size:=Eo J g E;have hH:=aaK (enc:=gy.cells) (k:=2) (λ_=>E) J E;have I:=AnyQ.slices_SortFunc Zp 2 aqg ake gy.cells (λ_=>E) (λx v hv=>by simp[gy.cells]at hv;rcases hv with rfl|rfl<;>rfl) Ms avN 132 #[] g 0 c rs.toArray w eQ (λ_ _ _ _ x y=>X0 x y _) hH hg jQ;change Calls prog 131 _ _ _ at I;rw[size_toArray]at I;refine I.mono ?_;rintro e w' ⟨rfl,d',m,os,hp,hs,rfl⟩;obtain⟨p1,_,p3⟩:=hp
 replace p1:d'.size=rs.length:=p1
 obtain⟨q1,q2⟩:=XQ (enc:=gy.cells) (k:=2) (d':=d') (m:=m) (os:=os) (λ_=>E) J p1;refine⟨E,d'.toList,?_,?_,q1,q2⟩
 ·have e1:d'.extract 0 rs.length=d':=by rw[<-p1];exact Array.extract_size
  have e2:rs.toArray.extract 0 rs.length=rs.toArray:=by simp
  rw[e1,e2]at p3;simpa using p3
 unfold rE;rw[pairwise_iff_getElem];intro i j hi Z O;rw[Array.length_toList]at hi Z;have h:=hs i j (zero_le _) O Y;rw[ahF,getElem!_pos d' j Z,getElem!_pos d' i hi]at h;simp only[Array.getElem_toList];simpa using h
def Bt (m:gy):∀l:List gy,(kr m l).Perm (m::l)
 |[]=>Perm.refl _
 |x::l=>by
  unfold kr
  split
  ·exact Perm.refl _
  exact((Bt m l).cons x).trans (Perm.swap m x l)
def KT {m:gy}:∀ {l:List gy},rE l->rE (kr m l)
 |[],_=>by simp[kr,rE]
 |x::l,h=>by
  obtain⟨h1,M⟩:=pairwise_cons.1 h;unfold kr
  split
  ·rename_i I
   refine pairwise_cons.2 ⟨λy J=>?_,h⟩
   rcases mem_cons.1 J with e|e
   ·rw[e];omega
   have:=h1 y e;omega
  rename_i I
  refine pairwise_cons.2 ⟨λy J=>?_,KT M⟩
  rcases mem_cons.1 ((Bt m l).mem_iff.1 J)with e|e
  ·rw[e];omega
  exact h1 y e
def Gm:∀(ls:List Ls) (rs:List gy),(ls.foldl (λl x=>kr x.msg l) rs).Perm (rs++ls.map (·.msg))
 |[],rs=>by simp
 |x::ls,rs=>by
  rw[foldl_cons,map_cons];refine(Gm ls (kr x.msg rs)).trans ?_;refine((Bt x.msg rs).append_right _).trans ?_;rw[cons_append];exact perm_middle.symm
def SI:∀(ls:List Ls) {rs:List gy},rE rs->rE (ls.foldl (λl x=>kr x.msg l) rs)
 |[],_,h=>h
 |_::ls,_,h=>SI ls (KT h)
def afQ {rs d:List gy}{ls:List Ls}(Z:d.Perm (rs++ls.map (·.msg)))(ha:rE d)(hA:rE rs)(hN:(nY rs ls).Nodup):d=ls.foldl (λl x=>kr x.msg l) rs:=by
 have hF:=Gm ls rs;have hnd:((rs++ls.map (·.msg)).map (·.no)).Nodup:=by
  unfold nY at hN;rw[map_append,map_map];exact hN
 refine Perm.eq_of_pairwise (le:=λa b:gy=>a.no<=b.no) (λa b I J h1 h2=>?_) ha (SI ls hA) (Z.trans hF.symm);have m1:=Z.mem_iff.1 I;have m2:=hF.mem_iff.1 J;have e:a.no=b.no:=Y;have:=pairwise_map.1 hnd;obtain⟨i,hi,M⟩:=getElem_of_mem m1;obtain⟨j,hj,O⟩:=getElem_of_mem m2;rw[pairwise_iff_getElem]at this
 rcases Nat.lt_trichotomy i j with h|h|h
 ·exact absurd (by rw[M,O];exact e) (this i j hi hj h)
 ·subst h;rw[<-M,<-O]
 exact absurd (by rw[M,O];exact e.symm) (this j i hj hi h)
end
section
open ChangeShapes WideShapes RowKit
def dW:Qd:=⟨0,0,0,[],[],jG⟩
def Qd.row (Q:Qd)(A1:Option Addr)(c1:Nat)(A2:Option Addr)(c2:Nat):Array Value:=dx Q.ep Q.nx Q.gv (.slice A1 Q.ready.length c1) (.slice A2 Q.bL.length c2) Q.ws
noncomputable def Qd.fault (Q:Qd):Int:=fZ Q.ep Q.nx Q.gv Q.ready Q.bL Q.ws
def stepM (Q:Qd)(e:Ev):Qd×iR×Bool:=
 if e.kind=1 then BG Q e.producer.toNat e.id e.body else if e.kind=2 then Gl Q else if e.kind=3 then Ew Q e.aN e.hno else Ey Q
noncomputable def iK (Q:Qd)(e:Ev):Qd×iR×Bool×Int:=
 if Q.fault≠0 then(dW,eT,false,Q.fault)else if aX e≠0 then(dW,eT,false,aX e)else((stepM Q e).1,(stepM Q e).2.1,(stepM Q e).2.2,0)
def akf (w:World)(r:Qd×iR×Bool×Int)(e:Ending)(w':World):Prop:= ∃A1 c1 A2 c2,e=.returned (.tuple #[.agg (dx r.1.ep r.1.nx r.1.gv (.slice A1 r.1.ready.length c1) (.slice A2 r.1.bL.length c2) r.1.ws),r.2.1.val,.bool r.2.2.1,.int .i64 r.2.2.2])/\
 St w.heap.size w w' [.cK 2 A1 r.1.ready.length (r.1.ready.flatMap gy.cells),.cK 4 A2 r.1.bL.length (r.1.bL.flatMap Ls.cells)]
section
variable {ep nx gv p:Int}{rs:List gy}{ls:List Ls}{W:kK}
def PV (h:fZ ep nx gv rs ls W=0):RU ep nx gv rs ls/\zG W/\ko nx (-1) rs=true/\lV ep nx gv (-1) ls=true/\(nY rs ls).Nodup:=by
 unfold fZ at h
 split at h
 ·cases h
 split at h
 ·cases h
 split at h
 ·rename_i h1 I J
  exact⟨Classical.not_not.1 h1,Classical.not_not.1 I,J⟩
 cases h
def aek:∀ {rs:List gy} {p:Int},ko nx p rs=true->(∀x∈rs,p<x.no)/\rs.Pairwise λa b=>a.no<b.no
 |[],_,_=>⟨λx I=>by simp at I,Pairwise.nil⟩
 |m::r,p,h=>by
  simp only[ko,Bool.and_eq_true,decide_eq_true_eq]at h;obtain⟨⟨_,h1⟩,M⟩:=h;obtain⟨J,O⟩:=aek M;refine⟨λx I=>?_,pairwise_cons.2 ⟨J,O⟩⟩
  rcases mem_cons.1 I with rfl|I
  ·exact h1
  exact Int.lt_trans h1 (J x I)
def akg (h:ko nx (-1) rs=true):rE rs:=(aek h).2.imp λh=>Int.le_of_lt h
def adR:∀ {ls:List Ls} {p:Int},lV ep nx gv p ls=true->(∀x∈ls,x.fG=ep/\p<x.hno)/\ls.Pairwise λa b=>a.hno<b.hno
 |[],_,_=>⟨λx I=>by simp at I,Pairwise.nil⟩
 |m::r,p,h=>by
  simp only[lV,LK,Bool.and_eq_true,decide_eq_true_eq]at h;obtain⟨⟨_,M,h1,_⟩,O⟩:=h;obtain⟨J,Z⟩:=adR O;refine⟨λx I=>?_,pairwise_cons.2 ⟨λx I=>(J x I).2,Z⟩⟩
  rcases mem_cons.1 I with rfl|I
  ·exact⟨M,h1⟩
  exact⟨(J x I).1,Int.lt_trans h1 (J x I).2⟩
def aqh (h:lV ep nx gv (-1) ls=true):∀x∈ls,x.fG=ep:=λx I=>((adR h).1 x I).1
def aqi (h:lV ep nx gv (-1) ls=true):∀(i j:Nat) (a b:Ls),ls[i]? =some a->ls[j]? =some b->a.hno=b.hno->i=j:=by
 have I:=(adR h).2;rw[pairwise_iff_getElem]at I;intro i j a b M O e;obtain⟨hi,rfl⟩:=List.getElem?_eq_some_iff.1 M;obtain⟨J,rfl⟩:=List.getElem?_eq_some_iff.1 O
 rcases Nat.lt_trichotomy i j with h1|h1|h1
 ·have:=I i j hi J h1;omega
 ·exact h1
 have:=I j i J hi h1;omega
def akh {e:Ev}(h:aX e=0):1<=e.kind/\e.kind<=4:=by
 unfold aX at h
 split at h
 ·cases h
 rename_i h1
 exact Classical.not_not.1 h1
def Zq {e:Ev}(h:aX e=0):0<=e.producer/\e.producer<=3:=by
 unfold aX at h
 split at h
 ·cases h
 split at h
 ·cases h
 rename_i h1 O
 split at h
 ·cases h
 split at h
 ·cases h
 rename_i h3 Z
 by_cases J:e.kind=1
 ·have M:=Classical.not_not.1 (λI=>O ⟨J,I⟩);simp only[Bool.and_eq_true,kJ,decide_eq_true_eq]at M;omega
 have M:=Classical.not_not.1 (λI=>Z ⟨J,I⟩);omega
end
section
variable {Q:Qd}{e:Ev}
def Mt (h:Q.fault≠0):iK Q e=(dW,eT,false,Q.fault):=if_pos h
def QE (h:Q.fault=0)(h1:aX e≠0):iK Q e=(dW,eT,false,aX e):=by
 unfold iK;rw[if_neg (λI=>I h),if_pos h1]
def zk (h:Q.fault=0)(h1:aX e=0):iK Q e=((stepM Q e).1,(stepM Q e).2.1,(stepM Q e).2.2,0):=by
 unfold iK;rw[if_neg (λI=>I h),if_neg (λI=>I h1)]
end
noncomputable def gW:Qd->List iR->List Ev->Option (Qd×List iR)
 |Q,an,[]=>some (Q,an)
 |Q,an,e::r=>if (iK Q e).2.2.2=0/\(iK Q e).2.2.1=true then gW (iK Q e).1 (an++[(iK Q e).2.1]) r else none
noncomputable def ay (l:List Ev):Qd×List iR×Int:=
 if 2000<l.length then(dW,[],1)else match gW dW [] l with
  |some r=>(r.1,r.2,0)
  |none=>(dW,[],3)
section
variable {Q:Qd}{an:List iR}{l:List Ev}{e:Ev}{k:Nat}
def UK (h:l[k]? =some e)(I:(iK Q e).2.2.2=0)(h1:(iK Q e).2.2.1=true):gW Q an (l.drop k)=gW (iK Q e).1 (an++[(iK Q e).2.1]) (l.drop (k+1)):=by
 obtain⟨J,M⟩:=List.getElem?_eq_some_iff.1 h;rw[drop_eq_getElem_cons J,M,gW,if_pos ⟨I,h1⟩]
def UL (h:l[k]? =some e)(I:¬((iK Q e).2.2.2=0/\(iK Q e).2.2.1=true)):gW Q an (l.drop k)=none:=by
 obtain⟨J,M⟩:=List.getElem?_eq_some_iff.1 h;rw[drop_eq_getElem_cons J,M,gW,if_neg I]
def X4 (h:l.length<=k):gW Q an (l.drop k)=some (Q,an):=by
 rw[drop_eq_nil_of_le h];rfl
def NM (h:2000<l.length):ay l=(dW,[],1):=if_pos h
def EA {r:Qd×List iR}(h:¬ 2000<l.length)(h1:gW dW [] l=some r):ay l=(r.1,r.2,0):=by
 unfold ay;rw[if_neg h,h1]
def J7 (h:¬ 2000<l.length)(h1:gW dW [] l=none):ay l=(dW,[],3):=by
 unfold ay;rw[if_neg h,h1]
def gJ (h:(ay l).2.2=0):l.length<=2000:=by
 unfold ay at h
 split at h
 ·cases h
 omega
def afR:(stepM Q e).1.ready.length+(stepM Q e).1.bL.length<=Q.ready.length+Q.bL.length+1:=by
 unfold stepM
 split
 ·unfold BG;split; · dsimp only;omega
  split; · dsimp only;omega
  split; · dsimp only;omega
  simp only[length_append,length_cons,length_nil];omega
 split
 ·obtain⟨ep,nx,gv,rs,ls,W⟩:=Q
  cases rs with
  |nil=>simp[Gl]
  |cons m r=>simp only[Gl];split<;>simp<;>omega
 split
 ·unfold Ew;split; · dsimp only;omega
  split; · dsimp only;omega
  have:=length_filter_le (λx:Ls=>decide (x.hno≠e.hno)) Q.bL;simp only;omega
 unfold Ey;split; · dsimp only;omega
 have h:=(Gm Q.bL Q.ready).length_eq;rw[length_append,length_map]at h;simp only[length_nil];omega
def ael (h:(iK Q e).2.2.2=0):(iK Q e).1.ready.length+(iK Q e).1.bL.length<=501:=by
 by_cases I:Q.fault=0
 ·by_cases h1:aX e=0
  ·rw[zk I h1];have J:=(PV I).1;unfold RU at J;have:=afR (Q:=Q) (e:=e);simp only;omega
  rw[QE I h1];simp[dW]
 rw[Mt I];simp[dW]
def Dz:∀ {l:List Ev} {Q:Qd} {an:List iR} {r:Qd×List iR},Q.ready.length+Q.bL.length<=501->gW Q an l=some r->r.1.ready.length+r.1.bL.length<=501/\r.2.length=an.length+l.length
 |[],Q,an,r,hQ,h=>by
  simp only[gW,Option.some.injEq]at h;subst h;exact⟨hQ,by simp⟩
 |e::l,Q,an,r,hQ,h=>by
  rw[gW]at h
  split at h
  ·rename_i I
   obtain⟨h1,J⟩:=Dz (ael I.1) h;exact⟨h1,by rw[J];simp;omega⟩
  cases h
def X6:(ay l).1.ready.length+(ay l).1.bL.length<=501:=by
 unfold ay
 split
 ·simp[dW]
 split
 ·rename_i r h
  exact(Dz (by simp[dW]) h).1
 simp[dW]
end
structure aQ where
 role:Int
 ep:Int
 fr:Int
 tg:Int
 rd:Int
 evs:List Ev
 deriving DecidableEq
def bD:aQ:=⟨0,0,0,0,0,[]⟩
def aF:Ev:=⟨4,0,0,0,0,0⟩
def aZ (b:aQ):Prop:=(b.role=0/\0<=b.ep/\b.ep<=1048576/\b.fr=0/\b.tg=0/\b.rd=0/\b.evs.length=0)\/(1<=b.ep/\b.ep<=1048576/\
 ((b.role=1/\b.fr=0/\b.tg=0/\b.rd=0)\/(b.role=2/\b.fr=0/\0<=b.tg/\b.tg<5/\0<=b.rd/\b.rd<=4)\/(b.role=3/\b.fr=0/\0<=b.tg/\b.tg<5/\b.rd=0)\/(b.role=4/\0<=b.fr/\b.fr<5/\b.tg=0/\b.rd=0)))
instance (b:aQ):Decidable (aZ b):=by unfold aZ;exact inferInstance
open Classical in
noncomputable def aj (b:aQ):Int:=if aZ b/\(ay b.evs).2.2=0 then 0 else 6
section
variable {b:aQ}
def lK (h:aZ b)(h1:(ay b.evs).2.2=0):aj b=0:=if_pos ⟨h,h1⟩
def J8 (h:¬aZ b):aj b=6:=if_neg λh1=>h h1.1
def PX (h:¬(ay b.evs).2.2=0):aj b=6:=if_neg λh1=>h h1.2
def eP (h:aj b=0):aZ b/\(ay b.evs).2.2=0:=by
 unfold aj at h
 split at h
 ·assumption
 cases h
end
noncomputable def gL (b:aQ)(e:Ev):aQ×iR×Bool×Int:=
 if aj b≠0 then(bD,eT,false,aj b)else if aX e≠0 then(bD,eT,false,aX e)else if e.kind=4 then(bD,eT,false,3)
 else if b.role=3 then(b,sw 12,false,0)else if b.role≠1/\b.role≠2 then(b,sw 7,false,0)
 else if (iK (ay b.evs).1 e).2.2.1=false then(b,(iK (ay b.evs).1 e).2.1,false,0)
 else if 1999<=b.evs.length then(b,sw 14,false,0)else({b with evs:=b.evs++[e]},(iK (ay b.evs).1 e).2.1,true,0)
noncomputable def iT (b:aQ)(ep:Int):aQ×Int:=
 if aj b≠0 then(bD,aj b)else if ¬(1<=ep/\ep<=1048576)then(bD,2)else if b.role≠0 then(bD,8)else if ep<=b.ep then(bD,15)else(⟨1,ep,0,0,0,[]⟩,0)
noncomputable def uw (b:aQ)(tg:Int):aQ×Int:=
 if aj b≠0 then(bD,aj b)else if ¬(0<=tg/\tg<=4)then(bD,2)else if b.role=2\/b.role=3 then(bD,12)else if b.role≠1 then(bD,7)
 else if b.ep=1048576 then(bD,14)else(⟨2,b.ep,0,tg,0,b.evs⟩,0)
noncomputable def bE (b:aQ)(hv:Int):aQ×Int:=
 if aj b≠0 then(bD,aj b)else if b.role≠2/\b.role≠3 then(bD,7)else if ¬(0<=hv/\hv<=b.evs.length)then(bD,2)
 else if b.role=3 then(b,0)else if hv=b.evs.length\/b.rd=4 then({b with role:=3,rd:=0},0)else({b with rd:=b.rd+1},0)
noncomputable def gX (b:aQ)(hv:Int):List Ev×Bool×Int:=
 if aj b≠0 then([],false,aj b)else if b.role≠2/\b.role≠3 then([],false,7)else if ¬(0<=hv/\hv<=b.evs.length)then([],false,2)
 else((b.evs.drop hv.toNat).take 3,decide (b.role=3/\b.evs.length<=hv.toNat+3),0)
noncomputable def dn (b:aQ)(ep fr:Int):aQ×Int:=
 if aj b≠0 then(bD,aj b)else if ¬(1<=ep/\ep<=1048576/\0<=fr/\fr<=4)then(bD,2)else if b.role≠0/\b.role≠4 then(bD,8)
 else if b.role=4/\b.ep=ep/\b.fr=fr then(b,0)else if ep<=b.ep then(bD,15)else(⟨4,ep,fr,0,0,[]⟩,0)
noncomputable def cu (b:aQ)(ep at_:Int)(l:List Ev)(last:Bool):aQ×Int:=
 if aj b≠0 then(bD,aj b)else if b.role≠4 then(bD,7)else if b.ep≠ep then(bD,15)else if ¬(0<=at_/\at_<=b.evs.length)then(bD,2)
 else if ¬(b.evs.drop at_.toNat).take l.length=l.take (b.evs.length-at_.toNat)then(bD,3)
 else if last=true/\at_.toNat+l.length<b.evs.length then(bD,3)
 else if aj (if last=true then⟨1,ep,0,0,0,b.evs++l.drop (b.evs.length-at_.toNat)++[aF]⟩else{b with evs:=b.evs++l.drop (b.evs.length-at_.toNat)})≠0 then(bD,3)
 else(if last=true then⟨1,ep,0,0,0,b.evs++l.drop (b.evs.length-at_.toNat)++[aF]⟩else{b with evs:=b.evs++l.drop (b.evs.length-at_.toNat)},0)
noncomputable def fP (b:aQ)(ep:Int):aQ×Int:=
 if aj b≠0 then(bD,aj b)else if b.role≠3 then(bD,7)else if ep<=b.ep then(bD,15)else(⟨0,b.ep,0,0,0,[]⟩,0)
noncomputable def dK (b:aQ):aQ×Int:=
 if aj b≠0 then(bD,aj b)else if b.role≠1/\b.role≠2 then(b,0)
 else if aj ⟨1,b.ep,0,0,0,b.evs++[aF]⟩≠0 then(bD,14)else(⟨1,b.ep,0,0,0,b.evs++[aF]⟩,0)
def kV {α:Type}{a b:α}(h:a=b:=by(repeat' (first|rfl|omega|split))<;>(simp only[Prod.mk.injEq,aQ.mk.injEq,and_true,true_and,and_self];omega)):a=b:=h
instance:zC gy where
 size:=2
 ints m:=[m.no,m.body]
 of xs:=⟨xs.getD 0 0,xs.getD 1 0⟩
 pos:=by decide
 len _:=rfl
 inv xs h:=by
  match xs,h with
  |[a,b],_=>rfl
instance:zC Ls where
 size:=4
 ints m:=[m.fG,m.hno,m.msg.no,m.msg.body]
 of xs:=⟨xs.getD 0 0,xs.getD 1 0,⟨xs.getD 2 0,xs.getD 3 0⟩⟩
 pos:=by decide
 len _:=rfl
 inv xs h:=by
  match xs,h with
  |[a,b,c,d],_=>rfl
def afS (l:List gy):∀u∈l.flatMap gy.cells,u.oneCell'=true:=Fe l
def Zr (l:List Ls):∀u∈l.flatMap Ls.cells,u.oneCell'=true:=Fe l
section
variable {P:Program}{w:World}{t e:TypeId}{xo yo:Operand}
def vI {A:Option Addr}{n c:Nat}(h:P.underlying t=some (.slice e)):(do eqGuard .eql t xo yo (.slice A n c) (.slice none 0 0);binOp .eql t (.slice A n c) (.slice none 0 0):Sem Value).run P w=.ok (.bool A.isNone) w:=by
 rw[Sem.run_bind,show(eqGuard .eql t xo yo (.slice A n c) (.slice none 0 0)).run P w=.ok () w from E];exact Lib.run_eql_slice_nil w t e A n c 0 0 h
end
def IL {w:World}{B s n:Nat}{xs:List Value}(h:Rd w B s none n xs):n=0/\xs=[]:=by
 have h1:n=0:=by
  rcases eq_zero_or_pos n with I|I
  ·exact I
  obtain⟨b,off,e,_⟩:=h.2 I
  cases e
 subst h1;exact⟨E,eq_nil_of_length_eq_zero (by have:=h.1;omega)⟩
def QF (A:Option Addr) (n c:Nat) (l:List Value) (w:World) (h:Rd w w.heap.size 2 A n l) (I: ∀ u∈l,u.oneCell'=true) (Z:n*16<=reachBytes):
    Calls prog 119 #[.slice A n c] w (jw w 222 2 n l):=by
 unfold reachBytes at Z;have S:=(St.start w).bX h;refine gK 8 func119 ?_;refine cw [0] ?_;refine zN 9 ?_
 cases A with
 |none=>
  obtain⟨rfl,rfl⟩:=IL h;refine vv (v:=.bool true) (bC E E E (vI underlying176)) ?_;refine zN 11 ?_;exact jw.of (Below.refl _ _) (jf _ _ _ _)
 |some a=>
  refine vv (v:=.bool false) (bC E E E (vI underlying176)) ?_;refine zN 7 ?_;refine qV (V:=λb=>.slice (aD b 0) 0 0) (row:= #[]) (t:=222) (n:=0) (s:=2) (xs:=[]) S (wn E) E E (aP (vs:=[]) E trivial kQ) iQ (zero_le _) E ?_;intro b1 w2 M;refine zQ ?_;refine dU (news:=l) (xs':=l) 0 M (wn E) E E E E E E (St.rd 1 M E) underlying176 VJ E dQ I lQ Y E ?_;intro A4 c5 w6 hc8 zl S7;refine zN 5 ?_;have J:=S7.aO [1];have O:=J.own 0 E;simp only[Nat.zero_add]at O⊢;exact jw.of J.low O
def QG (A:Option Addr) (n c:Nat) (l:List Value) (w:World) (h:Rd w w.heap.size 4 A n l) (I: ∀ u∈l,u.oneCell'=true) (Z:n*32<=reachBytes):
    Calls prog 120 #[.slice A n c] w (jw w 225 4 n l):=by
 unfold reachBytes at Z;have S:=(St.start w).bX h;refine gK 8 func120 ?_;refine cw [0] ?_;refine zN 9 ?_
 cases A with
 |none=>
  obtain⟨rfl,rfl⟩:=IL h;refine vv (v:=.bool true) (bC E E E (vI underlying177)) ?_;refine zN 11 ?_;exact jw.of (Below.refl _ _) (jf _ _ _ _)
 |some a=>
  refine vv (v:=.bool false) (bC E E E (vI underlying177)) ?_;refine zN 7 ?_;refine qV (V:=λb=>.slice (aD b 0) 0 0) (row:= #[]) (t:=225) (n:=0) (s:=4) (xs:=[]) S (wn E) E E (aP (vs:=[]) E trivial kQ) iQ (zero_le _) E ?_;intro b1 w2 M;refine zQ ?_;refine dU (news:=l) (xs':=l) 0 M (wn E) E E E E E E (St.rd 1 M E) underlying177 aef E dQ I lQ Y E ?_;intro A4 c5 w6 hc8 zl S7;refine zN 5 ?_;have J:=S7.aO [1];have O:=J.own 0 E;simp only[Nat.zero_add]at O⊢;exact jw.of J.low O
def Dm (e nx g:Int) (r l:Value) (W:kK) (m:gy) (w:World):
    Calls prog 126 #[.agg (dx e nx g (r) (l) W),.agg #[D m.no,D m.body]] w (Fp w (rD nx m)):=by
 have S:=St.start w;refine gK 25 func126 ?_;refine cw [0,1] ?_;refine zN 2 ?_;refine iP S ?_;intro b1 O J;refine iP J ?_;intro b4 Z I;refine zN 7 ?_;by_cases h7:0<=m.no
 ·refine zN 5 ?_;refine vg (au E E (aK (St.cl 1 I E Bb))) ?_;by_cases h8:m.no<nx
  ·refine zN 5 ?_;by_cases h9:0<=m.body
   ·refine zN 5 ?_;by_cases M:m.body<=1000000
    ·refine zN 7 ?_;refine⟨?_,I.low⟩;rw[show rD nx m=true from decide_eq_true ⟨‹_›,‹_›,‹_›,‹_›⟩];rfl
    refine zN 7 ?_;refine⟨?_,I.low⟩;rw[show rD nx m=false from decide_eq_false (λh=>absurd h.2.2.2 ‹_›)];rfl
   refine zN 12 ?_;refine⟨?_,I.low⟩;rw[show rD nx m=false from decide_eq_false (λh=>absurd h.2.2.1 ‹_›)];rfl
  refine zN 17 ?_;refine⟨?_,I.low⟩;rw[show rD nx m=false from decide_eq_false (λh=>absurd h.2.1 ‹_›)];rfl
 refine zN 23 ?_;refine⟨?_,I.low⟩;rw[show rD nx m=false from decide_eq_false (λh=>absurd h.1 ‹_›)];rfl
def QH (ep nx gv:Int) (A1 A2:Option Addr) (c1 c2:Nat) (rs:List gy) (ls:List Ls) (W:kK) (w:World) (h1:Rd w w.heap.size 2 A1 rs.length (rs.flatMap gy.cells)) (h2:Rd w w.heap.size 4 A2 ls.length (ls.flatMap Ls.cells)) (hb1:rs.length*16<=reachBytes) (hb2:ls.length*32<=reachBytes):
    Calls prog 118 #[.agg (dx ep nx gv (.slice A1 rs.length c1) (.slice A2 ls.length c2) W)] w (WM w (fZ ep nx gv rs ls W)):=by
 unfold reachBytes at hb1 hb2;have S:=((St.start w).bX h2).bX h1;refine gK 140 func118 ?_;refine cw [0] ?_;refine zN 2 ?_;refine iP S ?_;intro b1 w2 Z;refine zN 7 ?_;refine vv (au E E (aK (St.cl 0 Z E yc))) ?_;by_cases h4:ep<0
 ·refine zN 47 ?_;exact⟨gZ (Cu Y).symm,Z.low⟩
 refine zN 3 ?_;refine vg (au E E (aK (St.cl 0 Z E yc))) ?_;by_cases h5:1048576<ep
 ·refine zN 43 ?_;exact⟨gZ (Cu Y).symm,Z.low⟩
 refine zN 4 ?_;refine vg (au E E (aK (St.cl 0 Z E Bb))) ?_;by_cases h6:nx<0
 ·refine zN 38 ?_;exact⟨gZ (Cu Y).symm,Z.low⟩
 refine zN 4 ?_;refine vg (au E E (aK (St.cl 0 Z E Bb))) ?_;by_cases h7:1073741824<nx
 ·refine zN 33 ?_;exact⟨gZ (Cu Y).symm,Z.low⟩
 refine zN 4 ?_;refine vg (au E E (aK (St.cl 0 Z E Bc))) ?_;by_cases h8:gv<0
 ·refine zN 28 ?_;exact⟨gZ (Cu Y).symm,Z.low⟩
 refine zN 4 ?_;refine vg (au E E (aK (St.cl 0 Z E Bc))) ?_;by_cases h9:1073741824<gv
 ·refine zN 23 ?_;exact⟨gZ (Cu Y).symm,Z.low⟩
 refine zN 4 ?_;refine vg (au E E (aK (St.cl 0 Z E qd))) ?_;refine zN 2 ?_;refine vg (au E E (aK (St.cl 0 Z E sZ))) ?_;refine zQ ?_;refine vg (v:=D ((rs.length+ls.length:Nat):Int)) jc ?_;by_cases h10:500< ((rs.length+ls.length:Nat):Int)
 ·refine zN 13 ?_;exact⟨gZ (Cu Y).symm,Z.low⟩
 refine zN 11 ?_;refine vv (au E E (dS (cs:=(W.cells)) (St.rg 0 Z E (ajX)))) ?_;refine zN 4 ?_;refine fO (X:=Nat) (λI=>[(1,pV b1 0),(2,D 0),(51,.agg ((W.cells).toArray)),(52,D ((I:Nat):Int))]) (λI wr=>(I<=4)/\(∀j,j<I->dN (W.at j)=0)/\St w.heap.size w wr [.blk b1 (dx ep nx gv (.slice A1 rs.length c1) (.slice A2 ls.length c2) W) 183,.rd 2 A1 rs.length ((rs).flatMap gy.cells),.rd 4 A2 ls.length ((ls).flatMap Ls.cells)]) (λI=>4-I) (0) ?_ ?_ ?_
 ·exact⟨zero_le _,λj hj=>absurd hj (not_lt_zero _),Z⟩
 ·exact jW
 rintro k Ht ⟨ani,LM,oF⟩
 try dsimp only at ani LM oF
 refine bH (l':=[(1,pV b1 0),(2,D 0),(51,.agg ((W.cells).toArray)),(52,D ((k:Nat):Int))]) jW (aM (av ?_));by_cases h15:((k:Nat):Int)<4
 ·refine zN 11 ?_;refine vv (v:=.agg (((W.at k).cells).toArray)) (aiV E E E (XY W k Y _)) ?_;refine gB oF anh ?_;intro b16 ML qO;refine stA 0 qO kQ ?_ (h1:=IK _);intro Gn pK;refine zN 5 ?_;refine cab eQ pK (Fa (W.at k) _) ?_;intro Fq jX;refine zN 6 ?_;by_cases QJ:dN (W.at k)=0
  ·refine zN 8 ?_;refine vv (v:=D ((k+1:Nat):Int)) jc ?_;refine zN 2 ?_;have lC:=jX.aO [0];refine bQ (k+1) ?_ jW (by first|omega|(dsimp only;omega));exact⟨Y,(λj hj=>(Nat.lt_succ_iff_lt_or_eq.1 hj).elim (λh=>LM j h) (λh=>by rw[h];exact QJ)),lC⟩
  refine zN 17 ?_;refine⟨gZ ?_,jX.low⟩;rw[aqa (j:=k) Y QJ];exact(aj8 _).resolve_left QJ
 refine zN 12 ?_;refine XR (k:=3) oF (wn E) E E E ?_;intro b26 MN sP;have azl:zG W:=λj hj=>LM j Y;refine zN 12 ?_;refine vv (au E E (aK (St.cl 1 sP E qd))) ?_;refine zN 5 ?_;refine fO (X:=Nat×Int) (λI=>[(1,pV b1 0),(2,D 0),(6,.map (some b26)),(7,D I.2),(63,.slice A1 rs.length c1),(64,D ((rs.length:Nat):Int)),(65,D ((I.1:Nat):Int))]) (λI wr=>(I.1<=rs.length)/\(ko nx (-1) rs=ko nx I.2 (rs.drop I.1))/\St w.heap.size w wr [.loc b26 (LG prog 3 ((rs.take I.1).map (·.no))),.blk b1 (dx ep nx gv (.slice A1 rs.length c1) (.slice A2 ls.length c2) W) 183,.rd 2 A1 rs.length ((rs).flatMap gy.cells),.rd 4 A2 ls.length ((ls).flatMap Ls.cells)]) (λI=>rs.length-I.1) (0,-1) ?_ ?_ ?_
 ·exact⟨zero_le _,E,sP⟩
 ·exact Dj
 rintro⟨k,p⟩ Zt ⟨IQ,IU,qB⟩
 try dsimp only at IQ IU qB
 refine bH (l':=[(1,pV b1 0),(2,D 0),(6,.map (some b26)),(7,D p),(63,.slice A1 rs.length c1),(64,D ((rs.length:Nat):Int)),(65,D ((k:Nat):Int))]) Dj (aM (av ?_));by_cases h34:((k:Nat):Int)< ((rs.length:Nat):Int)
 ·refine zN 11 ?_;obtain⟨b35,o36,rfl⟩:=Rd.addr (St.rd 2 qB E) Y;obtain⟨x37,hx38⟩:=KQ k (St.rd 2 qB E) Y;refine vv (kZ k) ?_;refine vv (au E E (dS (cs:=gy.cells x37) (Rd.yB (St.rd 2 qB E) (λ_ _ h=>dh (enc:=gy.cells) (sz:=2) (λ_=>E) hx38 h)))) ?_;refine gB qB azk ?_;intro b39 w40 Gp;refine sa 0 Gp kQ ?_;intro VO tQ;refine zN 7 ?_;refine dO eQ (Dm ep nx gv _ _ W x37 _) ?_;rintro _ QK ⟨rfl,azm⟩;refine⟨_,E,?_⟩;have qC:=tQ.on azm
  cases WO:(rD nx x37)
  ·refine zN 23 ?_;exact⟨gZ (zH λh=>by rw[IU,J5 hx38,WO]at h;exact absurd h.2.1 iQ).symm,qC.low⟩
  have aFs:=wZ WO;refine zN 5 ?_;by_cases h49:p<x37.no
  ·refine zN 18 ?_;refine vv (v:=.agg #[]) yz ?_;refine NI (z:=x37.no) 1 qC (wn E) E E E E E E underlying3 underlying230 Y (by simp[maxLen];omega) ?_;intro VP vT;rw[J6 (f:=λm:gy=>m.no) hx38]at vT;refine zN 4 ?_;refine vv (v:=D ((k+1:Nat):Int)) jc ?_;refine zN 2 ?_;have Cv:=vT.aO [0];refine bQ (k+1,x37.no) ?_ Dj (by first|omega|(dsimp only;omega));exact⟨uQ,(by dsimp only;rw[IU,J5 hx38,WO,decide_eq_true h49];rfl),Cv⟩
  refine zN 18 ?_;exact⟨gZ (zH λh=>by rw[IU,J5 hx38,decide_eq_false h49]at h;exact absurd h.2.1 iQ).symm,qC.low⟩
 refine zN 19 ?_;refine vv (au E E (aK (St.cl 1 qB E sZ))) ?_;refine zN 5 ?_;have azn:ko nx (-1) rs=true:=by rw[IU,drop_of_length_le Y];rfl
 have vU:=qB;rw[take_of_length_le (show rs.length<=k by omega)]at vU;rw[<-append_nil (rs.map (·.no))]at vU;refine fO (X:=Nat×Int) (λI=>[(1,pV b1 0),(2,D 0),(6,.map (some b26)),(7,D I.2),(87,.slice A2 ls.length c2),(88,D ((ls.length:Nat):Int)),(89,D ((I.1:Nat):Int))]) (λI wr=>(I.1<=ls.length)/\(lV ep nx gv (-1) ls=lV ep nx gv I.2 (ls.drop I.1))/\St w.heap.size w wr [.loc b26 (LG prog 3 (rs.map (·.no)++(ls.take I.1).map (·.msg.no))),.blk b1 (dx ep nx gv (.slice A1 rs.length c1) (.slice A2 ls.length c2) W) 183,.rd 2 A1 rs.length ((rs).flatMap gy.cells),.rd 4 A2 ls.length ((ls).flatMap Ls.cells)]) (λI=>ls.length-I.1) (0,-1) ?_ ?_ ?_
 ·exact⟨zero_le _,E,vU⟩
 ·exact Dj
 rintro⟨k,p⟩ w56 ⟨azo,J,vJ⟩
 try dsimp only at azo J vJ
 refine bH (l':=[(1,pV b1 0),(2,D 0),(6,.map (some b26)),(7,D p),(87,.slice A2 ls.length c2),(88,D ((ls.length:Nat):Int)),(89,D ((k:Nat):Int))]) Dj (aM (av ?_));by_cases h60:((k:Nat):Int)< ((ls.length:Nat):Int)
 ·refine zN 11 ?_;obtain⟨b61,o62,rfl⟩:=Rd.addr (St.rd 3 vJ E) Y;obtain⟨O,M⟩:=KQ k (St.rd 3 vJ E) Y;refine vv (kZ k) ?_;refine vv (au E E (dS (cs:=Ls.cells O) (Rd.yB (St.rd 3 vJ E) (λ_ _ h=>dh (enc:=Ls.cells) (sz:=4) (λ_=>E) M h)))) ?_;refine gB vJ ar6 ?_;intro b65 VQ uy;refine sa 0 uy kQ ?_;intro w68 Ak;refine zN 7 ?_;refine vv (au E E (dS (cs:=[D O.msg.no,D O.msg.body]) (St.rg 0 Ak E (oK (x:=2) (m:=2) E)))) ?_;refine dO eQ (Dm ep nx gv _ _ W O.msg _) ?_;rintro _ w70 ⟨rfl,azp⟩;refine⟨_,E,?_⟩;have sS:=Ak.on azp
  cases anj:(rD nx O.msg)
  ·refine zN 40 ?_;exact⟨gZ (zH λh=>by rw[J,D9 M,LK,anj]at h;exact absurd h.2.2.1 iQ).symm,sS.low⟩
  have aFt:=wZ anj;refine zN 6 ?_;refine vg (au E E (aK (St.cl 2 sS E yc))) ?_;by_cases h75:O.fG=ep
  ·refine zN 7 ?_;by_cases h76:p<O.hno
   ·refine zN 7 ?_;refine vg (au E E (aK (St.cl 2 sS E Bc))) ?_;by_cases h77:O.hno<gv
    ·refine zN 20 ?_;refine vv (v:=.agg #[]) yz ?_;refine NI (z:=O.msg.no) 1 sS (wn E) E E E E E E underlying3 underlying230 Y (by simp[maxLen];omega) ?_;intro w78 Dn;rw[append_assoc,J6 (f:=λm:Ls=>m.msg.no) M]at Dn;refine zN 4 ?_;refine vv (v:=D ((k+1:Nat):Int)) jc ?_;refine zN 2 ?_;have vK:=Dn.aO [0];refine bQ (k+1,O.hno) ?_ Dj (by first|omega|(dsimp only;omega));exact⟨uQ,(by dsimp only;rw[J,D9 M,LK,anj,decide_eq_true ⟨by omega,by omega,by omega⟩];rfl),vK⟩
    refine zN 18 ?_;exact⟨gZ (zH λh=>by rw[J,D9 M,LK,decide_eq_false (λh1=>h77 (h1.2.2)),Bool.and_false]at h;exact absurd h.2.2.1 iQ).symm,sS.low⟩
   refine zN 26 ?_;exact⟨gZ (zH λh=>by rw[J,D9 M,LK,decide_eq_false (λh1=>h76 (h1.2.1)),Bool.and_false]at h;exact absurd h.2.2.1 iQ).symm,sS.low⟩
  refine zN 33 ?_;exact⟨gZ (zH λh=>by rw[J,D9 M,LK,decide_eq_false (λh1=>h75 (h1.1)),Bool.and_false]at h;exact absurd h.2.2.1 iQ).symm,sS.low⟩
 refine zN 14 ?_;have azq:lV ep nx gv (-1) ls=true:=by rw[J,drop_of_length_le Y];rfl
 have Dp:=vJ;rw[take_of_length_le (show ls.length<=k by omega)]at Dp;change St _ _ _ [.loc b26 (LG prog 3 (nY rs ls)),.blk b1 (dx ep nx gv (.slice A1 rs.length c1) (.slice A2 ls.length c2) W) 183,.rd 2 A1 rs.length ((rs).flatMap gy.cells),.rd 4 A2 ls.length ((ls).flatMap Ls.cells)]at Dp;obtain⟨m84,azr,azs,ank⟩:=afC 0 Dp E underlying230 3;have hnl:(nY rs ls).length=rs.length+ls.length:=by simp[nY]
 rw[hnl]at azs ank;refine vv (v:=D ((m84:Nat):Int)) (pI (vs:=[.map (some b26)]) E tU1 azr) ?_;refine zQ ?_;refine vv (au E E (aK (St.cl 1 Dp E qd))) ?_;refine zN 2 ?_;refine vv (au E E (aK (St.cl 1 Dp E sZ))) ?_;refine zQ ?_;refine vv (v:=D ((rs.length+ls.length:Nat):Int)) jc ?_;by_cases h88:((m84:Nat):Int)< ((rs.length+ls.length:Nat):Int)
 ·refine zN 12 ?_;exact⟨gZ (zH λh=>ank.1 Y h.2.2.2).symm,Dp.low⟩
 refine zN 13 ?_;exact⟨gZ (avM (by unfold RU;omega) azl azn azq (Classical.not_not.1 λh=>h88 (by have:=ank.2 h;omega))).symm,Dp.low⟩
def M4 {B g k c1 c2:Nat} {w0 w:World} {fs:List Fact} {A1 A2:Option Addr} {rs:List gy} {ls:List Ls} {W:kK} {ep nx gv kd id bd he hn:Int} (S:St B w0 w (.blk g (dx ep nx gv (.slice A1 rs.length c1) (.slice A2 ls.length c2) W) 219:: .own 222 2 (.slice A1 rs.length c1) rs.length ((rs).flatMap gy.cells):: .own 225 4 (.slice A2 ls.length c2) ls.length ((ls).flatMap Ls.cells)::fs)) (hk:k<4) (hlen:rs.length+ls.length<=500) (hnx:0<=nx/\nx<=1073741824) (hgv:0<=gv/\gv<=1073741824) (fG:0<=ep/\ep<=1048576):
    Calls prog 121 #[pV g 0,.agg #[D kd,D ((k:Nat):Int),D id,D bd,D he,D hn]] w (Ez B w0 g fs (BG ⟨ep,nx,gv,rs,ls,W⟩ k id bd)):=by
 refine gK 94 func121 ?_;refine cw [0,1] ?_;refine zN 2 ?_;refine iP S ?_;intro b1 w2 S3;refine gB S3 sV ?_;intro b4 w5 S6;refine zN 3 ?_;refine ny (X:=Nat) (λxv=>[(0,pV g 0),(3,pV b1 0),(4,pV b4 0),(5,.bool false),(6,pV xv 0),(7,.bool ((iY (W.at k) id).2.1)),(8,D ((iY (W.at k) id).2.2))]) (λxv wr=>St B w0 wr ((.blk xv (((iY (W.at k) id).1.cells).toArray) 180)::(.blk b4 #[D 0,D 0,D 0,D 0] 54)::(.blk b1 #[D kd,D ((k:Nat):Int),D id,D bd,D he,D hn] 49)::(.blk g (dx ep nx gv (.slice A1 rs.length c1) (.slice A2 ls.length c2) W) 219)::(.own 222 2 (.slice A1 rs.length c1) rs.length ((rs).flatMap gy.cells))::(.own 225 4 (.slice A2 ls.length c2) ls.length ((ls).flatMap Ls.cells))::fs)) ?_ ?_
 ·have S7:=S6.drew;refine aJ 19 S7 [] ?_;refine aL 6 ?_;refine ak (v:=pV g (5+k*9)) 6 E S7 (λ_ _=>(bJ E E E (fE k underlying181 kQ E hk))) ?_;refine ak (v:=.agg (((W.at k).cells).toArray)) 7 E S7 (λ_ anl=>(au E E (dS (cs:=(W.at k).cells) (St.rg 2 anl E (aj9 hk))))) ?_;refine aL 2 ?_;refine iB (n:=8) (r:=10) (s:=15) kQ ?_ ?_
  ·refine kD 10 E eQ (Hg (W.at k) id _) ?_;rintro _ MO ⟨rfl,anm⟩;refine⟨_,E,?_⟩;have uz:=S7.on anm;refine aL 5 ?_;refine aY 15 ?_;refine lU 15 E uz anh ?_;intro b25 NP tT;refine dR ?_;refine aY 16 ?_;refine snA 16 E 0 tT kQ ?_ (h1:=IK _);intro Zu uD;refine aL 4 ?_;refine dL b25 ?_ Dj;exact uD
  refine lU 15 E S7 anh ?_;intro b32 w33 qW;refine dR ?_;refine aY 10 ?_;refine kD 10 E eQ (Hg (W.at k) id _) ?_;rintro _ Zv ⟨rfl,ano⟩;refine⟨_,E,?_⟩;have sU:=qW.on ano;refine aL 5 ?_;refine aY 16 ?_;refine snA 16 E 0 sU kQ ?_ (h1:=IK _);intro VO tQ;refine aL 4 ?_;refine dL b32 ?_ Dj;exact tQ
 rintro b46 w47 M
 try dsimp only at M
 refine bH (l':=[(0,pV g 0),(3,pV b1 0),(4,pV b4 0),(5,.bool false),(6,pV b46 0),(7,.bool ((iY (W.at k) id).2.1)),(8,D ((iY (W.at k) id).2.2))]) Dj (aM (rM (aM (av (vm ?_)))));by_cases h1:(iY (W.at k) id).2.2=0
 ·refine zN 8 ?_
  cases h2:(iY (W.at k) id).2.1
  ·refine zN 8 ?_;refine sa 1 M kQ ?_;intro w49 xL;refine zN 7 ?_;have vT:=xL.aO [2,1,0];have o8:=vT.bF 1 E;have Cv:=o8.bF 2 E;rw[akc h1 h2];refine⟨E,A1,c1,A2,c2,?_⟩;dsimp only;exact Cv
  refine zN 6 ?_;refine iD M mixed kQ ?_;refine zN 4 ?_;refine uv (v:=.slice A1 rs.length c1) (λ_ azt=>(au E E (aK (St.cl 3 azt E qd)))) ?_;refine zN 5 ?_;refine uv (v:=.slice A2 ls.length c2) (λ_ aa0=>(au E E (aK (St.cl 3 aa0 E sZ)))) ?_;refine zQ ?_;refine uv (v:=D ((rs.length+ls.length:Nat):Int)) (λ_ _=>jc) ?_;by_cases h3:rs.length+ls.length=500
  ·refine zN 10 ?_;refine iH λw71 Fu=>?_;refine zN 4 ?_;refine vv (v:=.agg #[D 14,D 0,D 0,D 0]) gG ?_;refine sa 1 Fu kQ ?_;intro w73 NQ;refine zN 7 ?_;have Gq:=NQ.aO [2,1,0];have MP:=Gq.bF 1 E;have Fv:=MP.bF 2 E;rw[SH h1 h2 (.inl h3)];refine⟨E,A1,c1,A2,c2,?_⟩;dsimp only;exact Fv
  refine zN 6 ?_;refine ug (v:=D nx) (λ_ azu=>(au E E (aK (St.cl 3 azu E Bb)))) ?_;by_cases h4:nx=1073741824
  ·refine zN 3 ?_;refine iH λw88 MQ=>?_;refine zN 4 ?_;refine vv (v:=.agg #[D 14,D 0,D 0,D 0]) gG ?_;refine sa 1 MQ kQ ?_;intro w90 QL;refine zN 7 ?_;have zm:=QL.aO [2,1,0];have Dq:=zm.bF 1 E;have Hu:=Dq.bF 2 E;rw[SH h1 h2 (.inr h4)];refine⟨E,A1,c1,A2,c2,?_⟩;dsimp only;exact Hu
  refine zN 3 ?_;refine iH λw98 S99=>?_;refine zN 6 ?_;have J:=S99.drew;refine aJ 9 J [3] ?_;refine aL 7 ?_;refine ak (v:=pV g (5+k*9)) 7 E (St.del 3 J) (λ_ _=>(bJ E E E (fE k underlying181 kQ E hk))) ?_;refine aY 8 ?_;refine um (i:=8) E E (cs:=((iY (W.at k) id).1.cells).toArray) (row':=dx ep nx gv (.slice A1 rs.length c1) (.slice A2 ls.length c2) (W.put k (iY (W.at k) id).1)) (fs':=(.blk b46 (((iY (W.at k) id).1.cells).toArray) 180)::(.blk b4 #[D 0,D 0,D 0,D 0] 54)::(.blk b1 #[D kd,D ((k:Nat):Int),D id,D bd,D he,D hn] 49)::(.blk g (dx ep nx gv (.slice A1 rs.length c1) (.slice A2 ls.length c2) (W.put k (iY (W.at k) id).1)) 219)::(.own 222 2 (.slice A1 rs.length c1) rs.length ((rs).flatMap gy.cells))::(.own 225 4 (.slice A2 ls.length c2) ls.length ((ls).flatMap Ls.cells))::fs) 3 J (wn E) E E E E E E alW E (IK _) (by rw[xK];omega) (akd hk) E ?_;intro aa2 qX;refine aL 2 ?_;refine zN 2 ?_;have I:=qX.drew;refine fK 20 16 I [4] ?_;iterate 5 refine gU ?_
  refine gk (v:=.slice A1 rs.length c1) 5 E (St.del 4 I) (λ_ avO=>(au E E (aK (St.cl 3 avO E qd)))) ?_;iterate 4 refine gU ?_
  refine gk (v:=D nx) 10 E (St.del 4 I) (λ_ avP=>(au E E (aK (St.cl 3 avP E Bb)))) ?_;iterate 2 refine gU ?_
  refine gk (v:=.agg #[D nx,D bd]) 13 E (St.del 4 I) (λ_ _=>gG) ?_;refine fC (m:=5) (r:=14) kQ ?_;refine mQ (i:=14) E E (V:=λb=>.slice (aD b 0) 1 1) (row:= #[D nx,D bd]) (t:=222) I (wn E) E E (aP (vs:=[(0,.agg #[D nx,D bd])]) E xH kQ) ?_;intro aIF aa3 O;refine gU ?_;refine fC (m:=4) (r:=15) kQ ?_;refine lu (i:=15) E E (news:=[D nx,D bd]) (xs':=(rs++[(⟨nx,bd⟩:gy)]).flatMap gy.cells) 5 O (wn E) E E E E E E (St.mq (xs:=[D nx,D bd]) 0 O E E E) underlying176 VJ E dQ (bP E) lQ Y (jy (enc:=gy.cells) E E) ?_;intro azv c130 ahG aFu aFv yH;refine gU ?_;refine fu kQ E E E ?_;refine zN 3 ?_;refine jF 4 yH kQ ?_ (hs:=by exact II);intro asf Z;refine zQ ?_;refine iX ?_;refine zN 7 ?_;refine vv (au E E (aK (St.cl 4 Z E Bb))) ?_;refine vv (v:=D (nx+1)) jc ?_;refine zN 3 ?_;refine jF 4 Z kQ ?_ (hs:=by exact aj3);intro asg EB;refine zN 5 ?_;refine sa 2 EB kQ ?_;intro azw Gs;refine zN 5 ?_;have azx:=Gs.aO [3,2,1,0];have IV:=azx.bF 1 E;have WQ:=IV.bF 2 E;rw[aqb h1 h2 (λh=>h.elim h3 h4)];have hln:=(by simp:(rs++[(⟨nx,bd⟩:gy)]).length=rs.length+1);refine⟨E,azv,c130,A2,c2,?_⟩;dsimp only;rw[hln];exact WQ
 refine zN 8 ?_;refine vv (v:=.agg #[D ((iY (W.at k) id).2.2),D 0,D 0,D 0]) gG ?_;refine sa 1 M kQ ?_;intro ahH LP;refine zN 7 ?_;have RV:=LP.aO [2,1,0];have RX:=RV.bF 1 E;have NR:=RX.bF 2 E;rw[akb h1];refine⟨E,A1,c1,A2,c2,?_⟩;dsimp only;exact NR
def eu {w:World}{base:Nat}{e:TypeId}{size:Nat}{A:Option Addr}{n c:Nat}{xs:List Value}(h:w.ownsRow base e size (.slice A n c) n xs):n<=c/\c<=maxLen:=by
 obtain⟨A',c',I,h1,J⟩:=mW h
 cases I;exact⟨h1,J⟩
def Zw {α:Type}{enc:α->List Value}{sz:Nat}(h:∀x,(enc x).length=sz):∀(k:Nat) (l:List α),(l.flatMap enc).drop (k*sz)=(l.drop k).flatMap enc
 | 0,l=>by simp
 |k+1,[]=>by simp
 |k+1,x::l=>by rw[flatMap_cons,succ_mul,Nat.add_comm,<-drop_drop,drop_left' (h x),Zw h k l];rfl
def afT {w:World}{B:Nat}{A:Option Addr}{rs:List gy}(h:Rd w B 2 A (rs.length-1) (((rs.flatMap gy.cells).drop (1*2)).take ((rs.length-1)*2))):Rd w B 2 A (rs.length-1) ((rs.drop 1).flatMap gy.cells):=by
 rw[Zw (enc:=gy.cells) (sz:=2) (λ_=>E),take_of_length_le (by rw[iG (sz:=2) (λ_=>E),length_drop];exact Nat.le_refl _)]at h;exact h
def M5 {B g k c1 c2:Nat} {w0 w:World} {fs:List Fact} {A1 A2:Option Addr} {rs:List gy} {ls:List Ls} {W:kK} {ep nx gv kd id bd he hn:Int} (S:St B w0 w (.blk g (dx ep nx gv (.slice A1 rs.length c1) (.slice A2 ls.length c2) W) 219:: .own 222 2 (.slice A1 rs.length c1) rs.length ((rs).flatMap gy.cells):: .own 225 4 (.slice A2 ls.length c2) ls.length ((ls).flatMap Ls.cells)::fs)) (hk:k<4) (hlen:rs.length+ls.length<=500) (hnx:0<=nx/\nx<=1073741824) (hgv:0<=gv/\gv<=1073741824) (fG:0<=ep/\ep<=1048576):
    Calls prog 122 #[pV g 0,.agg #[D kd,D ((k:Nat):Int),D id,D bd,D he,D hn]] w (Ez B w0 g fs (Gl ⟨ep,nx,gv,rs,ls,W⟩)):=by
 refine gK 80 func122 ?_;refine cw [0,1] ?_;refine zN 2 ?_;refine iP S ?_;intro b1 w2 S3;refine gB S3 sV ?_;intro b4 w5 S6;refine zN 11 ?_;refine vv (au E E (aK (St.cl 2 S6 E qd))) ?_;refine zQ ?_;by_cases h1:rs.length=0
 ·refine zN 7 ?_;refine vv (v:=.agg #[D 10,D 0,D 0,D 0]) gG ?_;refine sa 0 S6 kQ ?_;intro w7 S8;refine zN 7 ?_;have S9:=S8.aO [1,0];have Dr:=S9.bF 1 E;have Cw:=Dr.bF 2 E;rw[afM h1];refine⟨E,A1,c1,A2,c2,?_⟩;dsimp only;exact Cw
 refine zN 11 ?_;refine vv (au E E (aK (St.cl 2 S6 E Bc))) ?_;by_cases h2:gv=1073741824
 ·refine zN 7 ?_;refine vv (v:=.agg #[D 14,D 0,D 0,D 0]) gG ?_;refine sa 0 S6 kQ ?_;intro w12 SK;refine zN 7 ?_;have mX:=SK.aO [1,0];have jh:=mX.bF 1 E;have qK:=jh.bF 2 E;rw[afN h1 h2];refine⟨E,A1,c1,A2,c2,?_⟩;dsimp only;exact qK
 refine zN 9 ?_;have J:=S6.drew;refine fK 21 20 J [] ?_;iterate 4 refine gU ?_
 refine gk (v:=D ep) 4 E J (λ_ Gt=>(au E E (aK (St.cl 2 Gt E yc)))) ?_;iterate 4 refine gU ?_
 refine gk (v:=D gv) 9 E J (λ_ azy=>(au E E (aK (St.cl 2 azy E Bc)))) ?_;refine gk (v:=.agg #[D ep,D gv]) 10 E J (λ_ _=>gG) ?_;iterate 4 refine gU ?_
 refine gk (v:=.slice A1 rs.length c1) 15 E J (λ_ anp=>(au E E (aK (St.cl 2 anp E qd)))) ?_;obtain⟨b34,o35,rfl⟩:=Rd.addr (St.ord 3 J E) Y;obtain⟨I,O⟩:=KQ 0 (St.ord 3 J E) Y;refine gk 16 E J (λ_ _=>kZ 0) ?_;refine gk (v:=.agg #[D I.no,D I.body]) 17 E J (λ_ azz=>(au E E (dS (cs:=gy.cells I) (Rd.yB (St.ord 3 azz E) (λ_ _ h=>dh (enc:=gy.cells) (sz:=2) (λ_=>E) O h))))) ?_;refine gk (v:=.agg #[D ep,D gv,D I.no,D I.body]) 18 E J (λ_ _=>gG) ?_;refine fC (m:=1) (r:=19) kQ ?_;refine mQ (i:=19) E E (V:=λb=>pV b 0) (row:= #[D 0,D 0,D 0,D 0]) (t:=225) J (wn E) E E (iM E (zeroValue225 _) E) ?_;intro b41 VO tQ;refine gU ?_;refine fu kQ E E E ?_;refine sa 0 tQ kQ ?_;intro QK M;refine zQ ?_;refine iX ?_;refine zN 8 ?_;refine vv (au E E (aK (St.cl 3 M E qd))) ?_;have hcp:=eu (M.own 4 E);obtain⟨A46,azA,azB,azC⟩:=Bz (P:=prog) (t:=176) (s:=2) (A:=(aD b34 o35)) (n:=rs.length) (c:=c1) (lo:=some (D 1)) (hi:=none) (mx:=none) (l:=1) (k:=rs.length) (q:=c1) underlying176 kQ (ahB 1 E Y) Y (Nat.le_refl _) Y;refine vv (v:=.slice A46 (rs.length-1) (c1-1)) (jY E E (jv E) nW nW (azA _)) ?_;have xL:=M.seal 4 E (afT (azB _ _ _ (St.ord 4 M E))) (λa h=>azC a h);refine zN 3 ?_;refine jF 3 xL kQ ?_ (hs:=by exact II);intro w51 o8;refine zN 3 ?_;have Z:=o8.drew;refine fK 13 9 Z [5] ?_;iterate 5 refine gU ?_
 refine gk (v:=.slice A2 ls.length c2) 5 E (St.del 5 Z) (λ_ aa5=>(au E E (aK (St.cl 3 aa5 E sZ)))) ?_;refine gU ?_;refine fC (m:=5) (r:=7) kQ ?_;refine mQ (i:=7) E E (V:=λb=>.slice (aD b 0) 1 1) (row:= #[D ep,D gv,D I.no,D I.body]) (t:=225) Z (wn E) E E (aP (vs:=[(0,.agg #[D ep,D gv,D I.no,D I.body])]) E xH kQ) ?_;intro b61 Zx wO;refine gU ?_;refine fC (m:=4) (r:=8) kQ ?_;refine lu (i:=8) E E (news:=[D ep,D gv,D I.no,D I.body]) (xs':=(ls++[(⟨ep,gv,I⟩:Ls)]).flatMap Ls.cells) 6 wO (wn E) E E E E E E (St.mq (xs:=[D ep,D gv,D I.no,D I.body]) 0 wO E E E) underlying177 aef E dQ (bP E) lQ Y (jy (enc:=Ls.cells) E E) ?_;intro A64 c65 VQ aIG aIH uy;refine gU ?_;refine fu kQ E E E ?_;refine zN 3 ?_;refine jF 4 uy kQ ?_ (hs:=by exact IJ);intro w70 sS;refine zQ ?_;refine iX ?_;refine zN 7 ?_;refine vv (au E E (aK (St.cl 4 sS E Bc))) ?_;refine vv (v:=D (gv+1)) jc ?_;refine zN 3 ?_;refine jF 4 sS kQ ?_ (hs:=by exact Zo);intro w72 tV;refine zN 5 ?_;refine vv (au E E (dS (cs:=[D ep,D gv]) (St.rg 1 tV E (oK (x:=0) (m:=2) E)))) ?_;refine zN 3 ?_;refine vv (v:=.agg #[D 0,D ep,D gv,D I.body]) gG ?_;refine sa 2 tV kQ ?_;intro w74 Gq;refine zN 5 ?_;have MP:=Gq.aO [3,2,1,0];have Fv:=MP.bF 2 E;have hl1:(rs.drop 1).length=rs.length-1:=by simp
 have hl2:(ls++[(⟨ep,gv,I⟩:Ls)]).length=ls.length+1:=by simp
 rw[aqc O h2];refine⟨E,A46,(c1-1),A64,c65,?_⟩;dsimp only;rw[hl1,hl2];exact Fv
end
section
abbrev bR (b:aQ)(A:Option Addr)(c:Nat):Array Value:= #[D b.role,D b.ep,D b.fr,D b.tg,D b.rd,.slice A b.evs.length c]
abbrev zB:Array Value:= #[D 0,D 0,D 0,D 0,D 0,.slice none 0 0]
abbrev rR (k q e p:Int)(x:Ev):Array Value:= #[D k,D q,D e,D p,D x.kind,D x.producer,D x.id,D x.body,D x.aN,D x.hno]
end
section
open ChangeShapes WideShapes RowKit
def afU:flat tP 30 47=some [.at_ (.int .i64),.at_ (.int .i64)]:=kQ
def afV:Iz tP 30 47=true:=kQ
def aki (xs:List Value):mkV tP 47 xs=.agg xs.toArray:=by
 unfold mkV;rw[underlying47]
def UM (a b c d:Int)(w:World):(binOp .eql 47 (.agg #[D a,D b]) (.agg #[D c,D d])).run tP w=.ok (.bool (a==c&&b==d)) w:=by
 have h:=Dh (P:=tP) w afU afV aki (xs:=[D a,D b]) (ys:=[D c,D d]) ⟨⟨_,E⟩,⟨_,E⟩,trivial⟩ ⟨⟨_,E⟩,⟨_,E⟩,trivial⟩;rw[show fq [D a,D b] [D c,D d]=(a==c&&b==d) by simp[fq,Cn]]at h;exact h
def yI (he hn:Int)(x:Ls):Bool:=x.fG==he&&x.hno==hn
def QM (he hn:Int)(ls:List Ls):Int:=match ls.findIdx? (yI he hn)with
 |some k=>(k:Int)
 |none=> -1
def KU {he hn:Int}{ls:List Ls}(h:∀(j:Nat) (y:Ls),j<ls.length->ls[j]? =some y->yI he hn y=false):QM he hn ls= -1:=by
 unfold QM;rw[findIdx?_eq_none_iff.2 (λy J=>by obtain⟨j,I,e⟩:=getElem_of_mem J;exact h j y I (by rw[getElem?_eq_getElem I,e]))]
def SL {he hn:Int}{ls:List Ls}{k:Nat}{x:Ls}(h:∀(j:Nat) (y:Ls),j<k->ls[j]? =some y->yI he hn y=false)(I:ls[k]? =some x)(J:yI he hn x=true):QM he hn ls=k:=by
 unfold QM;obtain⟨M,e⟩:=List.getElem?_eq_some_iff.1 I;rw[findIdx?_eq_some_iff_getElem.2 ⟨M,by rw[e];exact J,λj O=>by rw[h j _ O (getElem?_eq_getElem Y)];simp⟩]
def Gu {hn:Int}{ls:List Ls}(h:∀x∈ls,¬x.hno=hn):(ls.filter λx=>decide (x.hno≠hn))=ls:=filter_eq_self.2 λx I=>by simpa using h x I
def afW {hn:Int}{ls:List Ls}{k:Nat}{x:Ls}(J:ls[k]? =some x)(M:x.hno=hn)(hu:∀(i j:Nat) (a b:Ls),ls[i]? =some a->ls[j]? =some b->a.hno=b.hno->i=j):(ls.filter λx=>decide (x.hno≠hn))=ls.eraseIdx k:=by
 obtain⟨hk,e⟩:=List.getElem?_eq_some_iff.1 J;have e1:ls=ls.take k++x::ls.drop (k+1):=by rw[<-e,<-drop_eq_getElem_cons hk,take_append_drop]
 rw[eraseIdx_eq_take_drop_succ]
 conv=>lhs;rw[e1]
 rw[filter_append,filter_cons,if_neg (by simp[M])]
 congr 1
 ·refine Gu λy O h=>?_;obtain⟨j,Z,I⟩:=getElem_of_mem O;rw[length_take]at Z;have:=hu j k y x (by rw[getElem_take]at I;rw[<-I];exact getElem?_eq_getElem Y) J (by rw[h,M]);omega
 refine Gu λy O h=>?_;obtain⟨j,Z,I⟩:=getElem_of_mem O;rw[length_drop]at Z;have:=hu (k+1+j) k y x (by rw[getElem_drop]at I;rw[<-I];exact getElem?_eq_getElem Y) J (by rw[h,M]);omega
def X7 (x:Ls) (b:Nat) (he hn:Int) (w:World) (h:Rd w w.heap.size 2 (aD b 4) 1 [D he,D hn]):
    Calls tP 129 #[.agg #[D x.fG,D x.hno,D x.msg.no,D x.msg.body],pV b 0] w (Fp w (x.fG==he&&x.hno==hn)):=by
 have S:=(St.start w).bX h;refine gK 9 func129 ?_;refine cw [0,1] ?_;refine zN 2 ?_;refine iP S ?_;intro b1 J I;refine zN 6 ?_;refine vv (au E E (dS (cs:=[D x.fG,D x.hno]) (St.rg 0 I E (oK (x:=0) (m:=2) E)))) ?_;refine zQ ?_;refine vv (v:=.agg #[D he,D hn]) (au E E (dS (cs:=[D he,D hn]) (Rd.yB (off:=4) (j:=0) (St.rd 1 I E) (λi u h=>by rw[Nat.zero_add];exact h)))) ?_;refine vv (v:=.bool (x.fG==he&&x.hno==hn)) (bC E E E (Ip kQ (UM x.fG x.hno he hn _))) ?_;refine zN 5 ?_;exact⟨E,I.low⟩
def UN (A:Option Addr) (c b:Nat) (he hn:Int) (ls:List Ls) (w:World) (h:Rd w w.heap.size 4 A ls.length (ls.flatMap Ls.cells)) (h2:Rd w w.heap.size 2 (aD b 4) 1 [D he,D hn]) (hl:ls.length<=500):
    Calls tP 128 #[.slice A ls.length c,.func (.func 129) #[] #[pV b 0]] w (WM w (QM he hn ls)):=by
 have S:=((St.start w).bX h).bX h2;refine gK 19 func128 ?_;refine cw [0,1] ?_;refine zN 14 ?_;refine fO (X:=Nat) (λxv=>[(0,.slice A ls.length c),(1,.func (.func 129) #[] #[pV b 0]),(4,D 0),(7,D ((ls.length:Nat):Int)),(8,D ((xv:Nat):Int))]) (λxv wr=>(xv<=ls.length)/\(∀(j:Nat) (y:Ls),j<xv->ls[j]? =some y->yI he hn y=false)/\St w.heap.size w wr [.rd 2 (aD b 4) 1 [D he,D hn],.rd 4 A ls.length ((ls).flatMap Ls.cells)]) (λxv=>ls.length-xv) (0) ?_ ?_ ?_
 ·exact⟨zero_le _,λj y hj=>absurd hj (not_lt_zero _),S⟩
 ·exact zZ
 rintro k w1 ⟨hi3,I,J⟩
 try dsimp only at hi3 I J
 refine bH (l':=[(0,.slice A ls.length c),(1,.func (.func 129) #[] #[pV b 0]),(4,D 0),(7,D ((ls.length:Nat):Int)),(8,D ((k:Nat):Int))]) zZ (aM (av ?_));by_cases h5:((k:Nat):Int)< ((ls.length:Nat):Int)
 ·refine zN 20 ?_;obtain⟨b6,o7,rfl⟩:=Rd.addr (St.rd 1 J E) Y;obtain⟨O,Z⟩:=KQ k (St.rd 1 J E) Y;refine vv (kZ k) ?_;refine vv (au E E (dS (cs:=Ls.cells O) (Rd.yB (St.rd 1 J E) (λ_ _ h=>dh (enc:=Ls.cells) (sz:=4) (λ_=>E) Z h)))) ?_;have HC:=λw h=>X7 O b he hn w h
  cases M:yI he hn O
  ·rw[show(O.fG==he&&O.hno==hn)=false from M]at HC;refine wh eQ (HC _ (St.rd 0 J E)) ?_;rintro _ w10 ⟨rfl,azD⟩;refine⟨_,E,?_⟩;have Cw:=J.on azD;refine zN 7 ?_;refine vv (v:=D ((k+1:Nat):Int)) jc ?_;refine zN 2 ?_;refine bQ (k+1) ?_ zZ (by first|omega|(dsimp only;omega));exact⟨Y,(λj y hj hy=>(Nat.lt_succ_iff_lt_or_eq.1 hj).elim (λh=>I j y h hy) (λh=>by rw[h,Z]at hy;cases hy;exact M)),Cw⟩
  rw[show(O.fG==he&&O.hno==hn)=true from M]at HC;refine wh eQ (HC _ (St.rd 0 J E)) ?_;rintro _ Ea ⟨rfl,azE⟩;refine⟨_,E,?_⟩;have mX:=J.on azE;refine zN 16 ?_;exact⟨gZ (SL I Z M).symm,mX.low⟩
 refine zN 17 ?_;exact⟨gZ (KU (λj y hj hy=>I j y Y hy)).symm,J.low⟩
def akj {he hn:Int}{ls:List Ls}(h:¬ ∃(k:Nat) (x:Ls),ls[k]? =some x/\yI he hn x=true/\ ∀(j:Nat) (y:Ls),j<k->ls[j]? =some y->yI he hn y=false):∀y∈ls,yI he hn y=false:=by
 intro y I
 rcases hf:ls.findIdx? (yI he hn)with _|k
 ·exact findIdx?_eq_none_iff.1 hf y I
 obtain⟨J,h1,M⟩:=findIdx?_eq_some_iff_getElem.1 hf;refine absurd ⟨k,ls[k],getElem?_eq_getElem J,h1,λj z O Z=>?_⟩ h;have:=M j O;obtain⟨hj',e⟩:=List.getElem?_eq_some_iff.1 Z;rw[e]at this;simpa using this
def akk {he hn:Int}{x:Ls}(h:yI he hn x=true):x.hno=hn:=by simp[yI]at h;exact h.2
def akl {he hn ep:Int}{x:Ls}(h:x.fG=ep)(h1:he=ep)(I:x.hno=hn):yI he hn x=true:=by simp[yI,h,h1,I]
def aa7 {B g k c1 c2:Nat} {w0 w:World} {fs:List Fact} {A1 A2:Option Addr} {rs:List gy} {ls:List Ls} {W:kK} {ep nx gv kd id bd he hn:Int} (S:St B w0 w (.blk g (dx ep nx gv (.slice A1 rs.length c1) (.slice A2 ls.length c2) W) 219:: .own 222 2 (.slice A1 rs.length c1) rs.length ((rs).flatMap gy.cells):: .own 225 4 (.slice A2 ls.length c2) ls.length ((ls).flatMap Ls.cells)::fs)) (hk:k<4) (hlen:rs.length+ls.length<=500) (hnx:0<=nx/\nx<=1073741824) (hgv:0<=gv/\gv<=1073741824) (fG:0<=ep/\ep<=1048576) (hE: ∀ x∈ls,x.fG=ep) (hU: ∀ (i j:Nat) (a b:Ls),ls[i]? =some a->ls[j]? =some b->a.hno=b.hno->i=j):
    Calls tP 123 #[pV g 0,.agg #[D kd,D ((k:Nat):Int),D id,D bd,D he,D hn]] w (Ez B w0 g fs (Ew ⟨ep,nx,gv,rs,ls,W⟩ he hn)):=by
 refine gK 41 func123 ?_;refine cw [0,1] ?_;refine zN 2 ?_;refine iP S ?_;intro b1 w2 S3;refine gB S3 sV ?_;intro b4 w5 S6;refine zN 5 ?_;refine iD S6 mixed kQ ?_;refine zN 7 ?_;refine uv (v:=D ep) (λ_ anq=>(au E E (aK (St.cl 2 anq E yc)))) ?_;by_cases h1:he=ep
 ·refine zQ ?_;refine iH λw16 I=>?_;refine zN 10 ?_;refine vv (au E E (aK (St.cl 2 I E sZ))) ?_;refine vv Jz ?_;have HI:=λA c w h h2=>UN A c b1 he hn ls w h h2 Y
  rcases Classical.em (∃(k:Nat) (x:Ls),ls[k]? =some x/\yI he hn x=true/\ ∀(j:Nat) (y:Ls),j<k->ls[j]? =some y->yI he hn y=false)with⟨kk,x,hx,hm,hbf⟩|hno
  ·rw[SL hbf hx hm]at HI;have Z:=(List.getElem?_eq_some_iff.1 hx).1;refine dO eQ (HI _ _ _ (St.ord 4 I E) (aeg 1 I E E (λj u h=>by rcases j with _|_|_<;>first|exact h|(simp at h)))) ?_;rintro _ MO ⟨rfl,anm⟩;refine⟨_,E,?_⟩;have J:=I.on anm;refine zN 20 ?_;refine vv (au E E (aK (St.cl 2 J E sZ))) ?_;refine zN 2 ?_;refine vv (v:=D ((kk+1:Nat):Int)) jc ?_;obtain⟨g2,rfl⟩:=Et (J.own 4 E) Y;refine dO eQ (Uy g2 ls.length c2 kk _ (ls.flatMap Ls.cells) _ (J.own 4 E) (Zr _) Z) ?_;rintro _ Fq ⟨rfl,azF,M⟩;refine⟨_,E,?_⟩;rw[JY (enc:=Ls.cells) (sz:=4) (λ_=>E)]at M;have jX:=J.adO 4 E azF M;refine zN 3 ?_;refine jF 2 jX kQ ?_ (hs:=by exact IJ);intro w25 sI;refine zN 5 ?_;refine sa 0 sI kQ ?_;intro MN sP;refine zN 5 ?_;have uD:=sP.aO [1,0];have BH:=uD.bF 1 E;have qB:=BH.bF 2 E;have hel:(ls.eraseIdx kk).length=ls.length-1:=length_eraseIdx_of_lt Z;have hfo:=afW hx (akk hm) hU;rw[aqd h1 (by rw[hfo,hel];omega),hfo];refine⟨E,A1,c1,(aD g2 0),c2,?_⟩;dsimp only;rw[hel];exact qB
  have O:=akj hno;rw[KU (λj y _ hy=>O y (mem_of_getElem? hy))]at HI;refine dO eQ (HI _ _ _ (St.ord 4 I E) (aeg 1 I E E (λj u h=>by rcases j with _|_|_<;>first|exact h|(simp at h)))) ?_;rintro _ w32 ⟨rfl,azG⟩;refine⟨_,E,?_⟩;have tX:=I.on azG;refine zN 13 ?_;refine vv (v:=.agg #[D 7,D 0,D 0,D 0]) gG ?_;refine sa 0 tX kQ ?_;intro Zv sU;refine zN 6 ?_;have Dt:=sU.aO [1,0];have yC:=Dt.bF 1 E;have BI:=yC.bF 2 E;rw[afO h1 (by rw[Gu (λy hy hyn=>by have:=O y hy;rw[akl (hE y hy) h1 hyn]at this;cases this)])];refine⟨E,A1,c1,A2,c2,?_⟩;dsimp only;exact BI
 refine zQ ?_;refine iH λw41 Cx=>?_;refine zN 4 ?_;refine vv (v:=.agg #[D 11,D 0,D 0,D 0]) gG ?_;refine sa 0 Cx kQ ?_;intro w43 Fw;refine zN 6 ?_;have qC:=Fw.aO [1,0];have wP:=qC.bF 1 E;have zn:=wP.bF 2 E;rw[aaW h1];refine⟨E,A1,c1,A2,c2,?_⟩;dsimp only;exact zn
def aa8 {B g k c1 c2:Nat} {w0 w:World} {fs:List Fact} {A1 A2:Option Addr} {rs:List gy} {ls:List Ls} {W:kK} {ep nx gv kd id bd he hn:Int} (S:St B w0 w (.blk g (dx ep nx gv (.slice A1 rs.length c1) (.slice A2 ls.length c2) W) 219:: .own 222 2 (.slice A1 rs.length c1) rs.length ((rs).flatMap gy.cells):: .own 225 4 (.slice A2 ls.length c2) ls.length ((ls).flatMap Ls.cells)::fs)) (hk:k<4) (hlen:rs.length+ls.length<=500) (hnx:0<=nx/\nx<=1073741824) (hgv:0<=gv/\gv<=1073741824) (fG:0<=ep/\ep<=1048576) (hA:rE rs) (hN:(nY rs ls).Nodup):
    Calls prog 124 #[pV g 0,.agg #[D kd,D ((k:Nat):Int),D id,D bd,D he,D hn]] w (Ez B w0 g fs (Ey ⟨ep,nx,gv,rs,ls,W⟩)):=by
 refine gK 63 func124 ?_;refine cw [0,1] ?_;refine zN 2 ?_;refine iP S ?_;intro b1 w2 S3;refine gB S3 sV ?_;intro b4 w5 S6;refine zN 10 ?_;refine vv (au E E (aK (St.cl 2 S6 E yc))) ?_;by_cases h1:ep=1048576
 ·refine zN 6 ?_;refine vv (v:=.agg #[D 14,D 0,D 0,D 0]) gG ?_;refine sa 0 S6 kQ ?_;intro w7 S8;refine zN 6 ?_;have S9:=S8.aO [1,0];have Dr:=S9.bF 1 E;have Cw:=Dr.bF 2 E;rw[afP h1];refine⟨E,A1,c1,A2,c2,?_⟩;dsimp only;exact Cw
 refine zN 13 ?_;refine vv (au E E (aK (St.cl 2 S6 E sZ))) ?_;refine zN 5 ?_;refine fO (X:=Nat×(Option Addr)×Nat) (λJ=>[(0,pV g 0),(4,pV b4 0),(5,.bool false),(19,.slice A2 ls.length c2),(20,D ((ls.length:Nat):Int)),(21,D ((J.1:Nat):Int))]) (λJ wr=>(J.1<=ls.length)/\St B w0 wr ((.blk b4 #[D 0,D 0,D 0,D 0] 54)::(.blk b1 #[D kd,D ((k:Nat):Int),D id,D bd,D he,D hn] 49)::(.blk g (dx ep nx gv (.slice J.2.1 (rs.length+J.1) J.2.2) (.slice A2 ls.length c2) W) 219)::(.own 222 2 (.slice J.2.1 (rs.length+J.1) J.2.2) (rs.length+J.1) ((rs++(ls.take J.1).map (·.msg)).flatMap gy.cells))::(.own 225 4 (.slice A2 ls.length c2) ls.length ((ls).flatMap Ls.cells))::fs)) (λJ=>ls.length-J.1) (0,A1,c1) ?_ ?_ ?_
 ·exact⟨zero_le _,by dsimp only;rw[show rs++(ls.take 0).map (·.msg)=rs by simp];exact S6⟩
 ·exact rO
 rintro⟨q,Ab,cb⟩ w12 ⟨LM,M⟩
 try dsimp only at LM M
 refine bH (l':=[(0,pV g 0),(4,pV b4 0),(5,.bool false),(19,.slice A2 ls.length c2),(20,D ((ls.length:Nat):Int)),(21,D ((q:Nat):Int))]) rO (aM (av ?_));by_cases h15:((q:Nat):Int)< ((ls.length:Nat):Int)
 ·refine zN 11 ?_;obtain⟨b16,o17,rfl⟩:=Rd.addr (St.ord 4 M E) Y;obtain⟨I,asj⟩:=KQ q (St.ord 4 M E) Y;refine vv (kZ q) ?_;refine vv (au E E (dS (cs:=Ls.cells I) (Rd.yB (St.ord 4 M E) (λ_ _ h=>dh (enc:=Ls.cells) (sz:=4) (λ_=>E) asj h)))) ?_;refine gB M ar6 ?_;intro b20 Fq jX;refine sa 0 jX kQ ?_;intro JB jP;refine zN 2 ?_;have Z:=jP.drew;refine fK 14 10 Z [4] ?_;iterate 5 refine gU ?_
  refine gk (v:=.slice Ab (rs.length+q) cb) 5 E (St.del 4 Z) (λ_ aa9=>(au E E (aK (St.cl 3 aa9 E qd)))) ?_;refine gU ?_;refine gk (v:=.agg #[D I.msg.no,D I.msg.body]) 7 E (St.del 4 Z) (λ_ anp=>(au E E (dS (cs:=[D I.msg.no,D I.msg.body]) (St.rg 0 anp E (oK (x:=2) (m:=2) E))))) ?_;refine fC (m:=5) (r:=8) kQ ?_;refine mQ (i:=8) E E (V:=λb=>.slice (aD b 0) 1 1) (row:= #[D I.msg.no,D I.msg.body]) (t:=222) Z (wn E) E E (aP (vs:=[(0,.agg #[D I.msg.no,D I.msg.body])]) E xH kQ) ?_;intro b34 Zv sU;refine gU ?_;refine fC (m:=4) (r:=9) kQ ?_;refine lu (i:=9) E E (news:=[D I.msg.no,D I.msg.body]) (xs':=(rs++(ls.take (q+1)).map (·.msg)).flatMap gy.cells) 5 sU (wn E) E E E E E E (St.mq (xs:=[D I.msg.no,D I.msg.body]) 0 sU E E E) underlying176 VJ E dQ (bP E) lQ Y (jy (enc:=gy.cells) (by rw[append_assoc,J6 (f:=λx:Ls=>x.msg) asj]) E) ?_;intro A37 c38 w39 aII aIJ wR;refine gU ?_;refine fu kQ E E E ?_;refine zN 3 ?_;refine jF 4 wR kQ ?_ (hs:=by exact II);intro w43 Fw;refine zQ ?_;refine iX ?_;refine zN 3 ?_;refine vv (v:=D ((q+1:Nat):Int)) jc ?_;refine zN 2 ?_;have qC:=Fw.aO [1,0];refine bQ (q+1,A37,c38) ?_ rO (by first|omega|(dsimp only;omega));exact⟨uQ,qC⟩
 refine zN 12 ?_;obtain rfl:q=ls.length:=Y;have O:=M;rw[take_length]at O;refine zN 4 ?_;refine vv (au E E (aK (St.cl 2 O E qd))) ?_;have hml:(rs++ls.map (·.msg)).length=rs.length+ls.length:=by simp
 have HS:=λA c w (ho:World.ownsRow w B 222 2 (.slice A (rs++ls.map (·.msg)).length c) (rs++ls.map (·.msg)).length ((rs++ls.map (·.msg)).flatMap gy.cells))=>UJ A c (rs++ls.map (·.msg)) w ho Y;rw[hml]at HS;refine dO eQ (HS Ab cb _ (O.own 3 E)) ?_;rintro _ w47 ⟨rfl,d49,asl,azH,asn,aso⟩;refine⟨_,E,?_⟩;have Al:=O.append 3 E aso asn (.inl E);have hdl:=afQ asl azH hA hN;clear HS asn aso O;refine zN 8 ?_;refine jF 2 Al kQ ?_ (hs:=by exact IJ);intro w54 vU;refine zN 8 ?_;refine vv (au E E (aK (St.cl 2 vU E yc))) ?_;refine vv (v:=D (ep+1)) jc ?_;refine zN 3 ?_;refine jF 2 vU kQ ?_ (hs:=by exact aj2);intro w56 vJ;refine zN 8 ?_;refine jF 2 vJ kQ ?_ (hs:=by exact Zo);intro w58 BJ;refine zN 5 ?_;refine sa 0 BJ kQ ?_;intro w60 Hw;refine zN 5 ?_;have JC:=Hw.aO [1,0];have wO:=JC.bF 1 E;have S64:=wO.seal 2 E Rd.none_ (λ(a:Addr) (h:(none:Option Addr)=some a)=>by cases h);have hln:d49.length=rs.length+ls.length:=by rw[asl.length_eq,hml]
 rw[aqe h1,<-hdl];refine⟨E,Ab,cb,none,0,?_⟩;dsimp only;rw[hln];exact S64
section
variable {P:Program}{N:Nat}{l l':Slots}{w w' w0:World}{ops:Array Oper}{o:Oper}{rest:List Oper}{Q:Exit->Act->World->Prop}{d B:Nat}{v p:Value}{fs fs':List Fact}{b m f:Nat}{row row' cs:Array Value}{t ty:TypeId}{x y:Operand}
def saq (i:Nat)(S:St B w0 w fs)(I:(P.info? ty).map (·.size)=some m)(h:∀w',St B w0 w' fs'->wL P N ops Q rest l w')(hw:o.guard=none:=by exact E)(J:o.dst=none:=by exact E)(M:o.op=.store ty x y:=by exact E)
  (O:ev l x=some (.pointer (some ⟨b,0,none⟩)):=by exact E) (Z:ev l y=some v:=by exact E) (hi:fs[i]? =some (.blk b row t):=by exact E) (hv:v.cells=cs:=by exact E) (hm:cs.size=m:=by exact E)
  (h1:∀u∈cs.toList,u.oneCell'=true:=by exact J4 E E) (hr:ble m row.size=true:=by exact E) (hs:row.size=cs.size:=by exact E) (hf:iN (.blk b cs t) fs i fs':=by repeat' first|exact iN.z|apply iN.s):wL P N ops Q (o::rest) l w:=
 za i S (wn hw) J M O Z hi hv I hm h1 (by rw[Nat.zero_add];exact le_of_ble_eq_true hr) (lZ hs) hf.eq h
def Zy {C:World->Prop}{n:Nat}{listed listed':Array Bool}(j:Nat)(I:ops[j]? =some o)(i:Nat)(S:St B w0 w fs)(J:(P.info? ty).map (·.size)=some m)(h:∀w',St B w0 w' fs'->C w'/\wA P N ops Q C n listed' l w')(M:listed.setIfInBounds j true=listed':=by exact E)
  (hw:o.guard=none:=by exact E) (O:o.dst=none:=by exact E) (Z:o.op=.store ty x y:=by exact E) (hx:ev l x=some (.pointer (some ⟨b,0,none⟩)):=by exact E) (hy:ev l y=some v:=by exact E) (hi:fs[i]? =some (.blk b row t):=by exact E) (hv:v.cells=cs:=by exact E)
  (hm:cs.size=m:=by exact E) (h1:∀u∈cs.toList,u.oneCell'=true:=by exact J4 E E) (hr:ble m row.size=true:=by exact E) (hs:row.size=cs.size:=by exact E) (hf:iN (.blk b cs t) fs i fs':=by repeat' first|exact iN.z|apply iN.s):wK P N ops Q C n j listed l w:=
 um I M i S (wn hw) O Z hx hy hi hv J hm h1 (by rw[Nat.zero_add];exact le_of_ble_eq_true hr) (lZ hs) hf.eq h
end
def Hy (e:Ev)(w:World):Calls prog 78 #[e.val] w (WM w (aX e)):=(Hf e w).mono λ_ _ h=>⟨h.1,h.2⟩
def J9 {B:Nat}{w0 w:World}(S:St B w0 w []):St B w0 w [.cK 2 none 0 [],.cK 4 none 0 []]:=
 (aB S).cons ⟨Rd.none_,λa h=>by cases h⟩ λk I=>by cases I
def xg (ep nx gv kd pr id bd he hn:Int) (A1 A2:Option Addr) (c1 c2:Nat) (rs:List gy) (ls:List Ls) (W:kK) (w:World) (h1:Rd w w.heap.size 2 A1 rs.length (rs.flatMap gy.cells)) (h2:Rd w w.heap.size 4 A2 ls.length (ls.flatMap Ls.cells)) (hb1:rs.length*16<=reachBytes) (hb2:ls.length*32<=reachBytes):
    Calls prog 111 #[.agg (dx ep nx gv (.slice A1 rs.length c1) (.slice A2 ls.length c2) W),.agg #[D kd,D pr,D id,D bd,D he,D hn]] w (akf w (iK ⟨ep,nx,gv,rs,ls,W⟩ ⟨kd,pr,id,bd,he,hn⟩)):=by
 have S:=((St.start w).bX h2).bX h1;refine gK 70 func111 ?_;refine cw [0,1] ?_;refine zN 2 ?_;refine iP S ?_;intro b1 w2 S3;refine iP S3 ?_;intro b4 w5 S6;refine lS (V:=λb=>pV b 0) (row:=dx 0 0 0 (.slice none 0 0) (.slice none 0 0) jG) (t:=183) S6 (wn E) E E (iM E (zeroValue183 _) E) ?_;intro b7 w8 S9;refine gB S9 sV ?_;intro b10 Ht oF;refine zN 8 ?_;refine cab eQ oF (QH ep nx gv A1 A2 c1 c2 rs ls W _ (St.rd 4 oF E) (St.rd 5 oF E) hb1 hb2) ?_;intro Ea mX;refine zN 6 ?_;by_cases h0:fZ ep nx gv rs ls W=0
 ·obtain⟨hR,hW,hRd,hLs,hNd⟩:=PV h0;unfold RU at hR;refine zN 10 ?_;refine cab eQ mX (Hy ⟨kd,pr,id,bd,he,hn⟩ _) ?_;intro w16 zI;refine zN 6 ?_;by_cases h1:aX ⟨kd,pr,id,bd,he,hn⟩=0
  ·have hkd:=akh h1;have hpr:=Zq h1;simp only at hkd hpr;obtain⟨k,hk0⟩:∃k:Nat,pr=(k:Int):=⟨pr.toNat,by omega⟩;subst hk0;have hk:k<4:=Y;refine zN 9 ?_;refine vv (v:=.agg (dx ep nx gv (.slice A1 rs.length c1) (.slice A2 ls.length c2) W)) gG ?_;refine iP zI ?_;intro h Zz uV;refine zN 4 ?_;have jX:=uV.drew;refine aJ 16 jX [0] ?_;refine aL 3 ?_;refine ak (v:=.slice A1 rs.length c1) 3 E (St.del 0 jX) (λ_ anr=>(au E E (aK (St.cl 3 anr E qd)))) ?_;refine dR ?_;refine ak (v:=.slice A2 ls.length c2) 6 E (St.del 0 jX) (λ_ ant=>(au E E (aK (St.cl 3 ant E sZ)))) ?_;refine aY 4 ?_;refine kD 4 E eQ (QF A1 rs.length c1 _ _ (St.rd 5 jX E) (afS rs) hb1) ?_;rintro _ w33 ⟨J,M,rfl,azI,azJ⟩;refine⟨_,E,?_⟩;have qW:=jX.uj azI azJ;refine dR ?_;refine aY 7 ?_;refine kD 7 E eQ (QG A2 ls.length c2 _ _ (St.rd 7 qW E) (Zr ls) hb2) ?_;rintro _ w39 ⟨O,Z,rfl,ano,azK⟩;refine⟨_,E,?_⟩;have wR:=qW.uj ano azK;refine aL 4 ?_;refine aY 11 ?_;refine snz 11 E 2 wR kQ ?_ (hs:=by exact II);intro QK qC;refine aL 4 ?_;refine aY 15 ?_;refine snz 15 E 2 qC kQ ?_ (hs:=by exact IJ);intro w49 xL;refine aL 2 ?_;refine zN 3 ?_;refine JZ (k:=3) xL (wn E) E E E ?_;intro b51 w52 Cv;refine zQ ?_;refine vv Jz ?_;refine kR (e:=226) 0 Cv (wn E) E E E E E E underlying3 underlying227 dQ dQ ?_;intro w54 vU;refine zQ ?_;refine vv Jz ?_;refine kR (e:=226) 0 vU (wn E) E E E E E E underlying3 underlying227 dQ dQ ?_;intro w56 vJ;refine zQ ?_;refine vv Jz ?_;refine kR (e:=226) 0 vJ (wn E) E E E E E E underlying3 underlying227 dQ dQ ?_;intro w58 BJ;refine zQ ?_;refine vv Jz ?_;refine kR (e:=226) 0 BJ (wn E) E E E E E E underlying3 underlying227 dQ dQ ?_;intro w60 Hw;refine zN 3 ?_
   rcases(by omega:kd=1\/kd=2\/kd=3\/kd=4)with rfl|rfl|rfl|rfl
   ·refine vv (v:=.func (.func 121) #[pV h 0] #[]) (kg 0 Hw E E E E underlying3 underlying227 (zeroValue226 _) dQ E) ?_;refine zN 7 ?_;have JC:St w.heap.size w w60 [.blk h (dx ep nx gv (.slice J rs.length M) (.slice O ls.length Z) W) 219,.own 222 2 (.slice J rs.length M) rs.length ((rs).flatMap gy.cells),.own 225 4 (.slice O ls.length Z) ls.length ((ls).flatMap Ls.cells),.loc b51 (qj prog 3 (λy=>if y=4 then some (.func (.func 124) #[pV h 0] #[])else(λy=>if y=3 then some (.func (.func 123) #[pV h 0] #[])else(λy=>if y=2 then some (.func (.func 122) #[pV h 0] #[])else(λy=>if y=1 then some (.func (.func 121) #[pV h 0] #[])else(λ_=>none) y) y) y) y) 4),.blk b10 #[D 0,D 0,D 0,D 0] 54,.blk b7 (dx 0 0 0 (.slice none 0 0) (.slice none 0 0) jG) 183,.blk b4 #[D 1,D ((k:Nat):Int),D id,D bd,D he,D hn] 49,.blk b1 (dx ep nx gv (.slice A1 rs.length c1) (.slice A2 ls.length c2) W) 183,.rd 2 A1 rs.length ((rs).flatMap gy.cells),.rd 4 A2 ls.length ((ls).flatMap Ls.cells)]:=Hw.re [3,2,1,0,4,5,6,7,8,9] dQ;have HC:=M4 (kd:=1) (k:=k) (id:=id) (bd:=bd) (he:=he) (hn:=hn) JC hk Y Y Y Y;rw[<-show stepM ⟨ep,nx,gv,rs,ls,W⟩ ⟨1,((k:Nat):Int),id,bd,he,hn⟩=BG ⟨ep,nx,gv,rs,ls,W⟩ k id bd from by simp[stepM]]at HC;obtain⟨R,I⟩:∃R,stepM ⟨ep,nx,gv,rs,ls,W⟩ ⟨1,((k:Nat):Int),id,bd,he,hn⟩=R:=⟨_,E⟩;rw[I]at HC;refine wh eQ (HC) ?_;rintro _ w67 ⟨rfl,A63,c64,A65,c66,Cy⟩;refine⟨_,E,?_⟩;refine zN 3 ?_;refine gB Cy sV ?_;intro b69 w70 sS;refine sa 0 sS kQ ?_;intro w72 tV;refine zN 4 ?_;have NQ:=tV.drew;refine aJ 10 NQ [6,5] ?_;refine aL 6 ?_;refine aY 6 ?_;refine Zy 6 E 6 NQ kQ ?_;intro w81 S82;refine dR ?_;refine aY 7 ?_;refine sn 7 E 5 S82 kQ ?_;intro w83 Fx;refine aL 4 ?_;refine zN 2 ?_;refine dX (rs:=[.cell 4 183,.cell 5 54,.tmp 6,.tmp 7]) (vs:=[.agg (dx R.1.ep R.1.nx R.1.gv (.slice A63 R.1.ready.length c64) (.slice A65 R.1.bL.length c66) R.1.ws),.agg #[D R.2.1.code,D R.2.1.fG,D R.2.1.hno,D R.2.1.body],.bool R.2.2,D 0]) E ⟨⟨_,E,eZ 6 Fx E underlying183 E kQ⟩,⟨_,E,eZ 5 Fx E underlying54 E kQ⟩,E,E,trivial⟩ ?_;have Gv:=Fx.aO [10,9,8,7,6,5,4,1,0];rw[zk (Q:=⟨ep,nx,gv,rs,ls,W⟩) h0 h1,I];exact⟨A63,c64,A65,c66,E,Gv⟩
   ·refine vv (v:=.func (.func 122) #[pV h 0] #[]) (kg 0 Hw E E E E underlying3 underlying227 (zeroValue226 _) dQ E) ?_;refine zN 7 ?_;have MR:St w.heap.size w w60 [.blk h (dx ep nx gv (.slice J rs.length M) (.slice O ls.length Z) W) 219,.own 222 2 (.slice J rs.length M) rs.length ((rs).flatMap gy.cells),.own 225 4 (.slice O ls.length Z) ls.length ((ls).flatMap Ls.cells),.loc b51 (qj prog 3 (λy=>if y=4 then some (.func (.func 124) #[pV h 0] #[])else(λy=>if y=3 then some (.func (.func 123) #[pV h 0] #[])else(λy=>if y=2 then some (.func (.func 122) #[pV h 0] #[])else(λy=>if y=1 then some (.func (.func 121) #[pV h 0] #[])else(λ_=>none) y) y) y) y) 4),.blk b10 #[D 0,D 0,D 0,D 0] 54,.blk b7 (dx 0 0 0 (.slice none 0 0) (.slice none 0 0) jG) 183,.blk b4 #[D 2,D ((k:Nat):Int),D id,D bd,D he,D hn] 49,.blk b1 (dx ep nx gv (.slice A1 rs.length c1) (.slice A2 ls.length c2) W) 183,.rd 2 A1 rs.length ((rs).flatMap gy.cells),.rd 4 A2 ls.length ((ls).flatMap Ls.cells)]:=Hw.re [3,2,1,0,4,5,6,7,8,9] dQ;have HC:=M5 (kd:=2) (k:=k) (id:=id) (bd:=bd) (he:=he) (hn:=hn) MR hk Y Y Y Y;rw[<-show stepM ⟨ep,nx,gv,rs,ls,W⟩ ⟨2,((k:Nat):Int),id,bd,he,hn⟩=Gl ⟨ep,nx,gv,rs,ls,W⟩from by simp[stepM]]at HC;obtain⟨R,I⟩:∃R,stepM ⟨ep,nx,gv,rs,ls,W⟩ ⟨2,((k:Nat):Int),id,bd,he,hn⟩=R:=⟨_,E⟩;rw[I]at HC;refine wh eQ (HC) ?_;rintro _ w93 ⟨rfl,A89,c90,A91,c92,Hu⟩;refine⟨_,E,?_⟩;refine zN 3 ?_;refine gB Hu sV ?_;intro b95 w96 Fy;refine sa 0 Fy kQ ?_;intro w98 S99;refine zN 4 ?_;have wm:=S99.drew;refine aJ 10 wm [6,5] ?_;refine aL 6 ?_;refine aY 6 ?_;refine Zy 6 E 6 wm kQ ?_;intro azL vD;refine dR ?_;refine aY 7 ?_;refine sn 7 E 5 vD kQ ?_;intro aa2 qX;refine aL 4 ?_;refine zN 2 ?_;refine dX (rs:=[.cell 4 183,.cell 5 54,.tmp 6,.tmp 7]) (vs:=[.agg (dx R.1.ep R.1.nx R.1.gv (.slice A89 R.1.ready.length c90) (.slice A91 R.1.bL.length c92) R.1.ws),.agg #[D R.2.1.code,D R.2.1.fG,D R.2.1.hno,D R.2.1.body],.bool R.2.2,D 0]) E ⟨⟨_,E,eZ 6 qX E underlying183 E kQ⟩,⟨_,E,eZ 5 qX E underlying54 E kQ⟩,E,E,trivial⟩ ?_;have vE:=qX.aO [10,9,8,7,6,5,4,1,0];rw[zk (Q:=⟨ep,nx,gv,rs,ls,W⟩) h0 h1,I];exact⟨A89,c90,A91,c92,E,vE⟩
   ·refine vv (v:=.func (.func 123) #[pV h 0] #[]) (kg 0 Hw E E E E underlying3 underlying227 (zeroValue226 _) dQ E) ?_;refine zN 7 ?_;have EC:St w.heap.size w w60 [.blk h (dx ep nx gv (.slice J rs.length M) (.slice O ls.length Z) W) 219,.own 222 2 (.slice J rs.length M) rs.length ((rs).flatMap gy.cells),.own 225 4 (.slice O ls.length Z) ls.length ((ls).flatMap Ls.cells),.loc b51 (qj prog 3 (λy=>if y=4 then some (.func (.func 124) #[pV h 0] #[])else(λy=>if y=3 then some (.func (.func 123) #[pV h 0] #[])else(λy=>if y=2 then some (.func (.func 122) #[pV h 0] #[])else(λy=>if y=1 then some (.func (.func 121) #[pV h 0] #[])else(λ_=>none) y) y) y) y) 4),.blk b10 #[D 0,D 0,D 0,D 0] 54,.blk b7 (dx 0 0 0 (.slice none 0 0) (.slice none 0 0) jG) 183,.blk b4 #[D 3,D ((k:Nat):Int),D id,D bd,D he,D hn] 49,.blk b1 (dx ep nx gv (.slice A1 rs.length c1) (.slice A2 ls.length c2) W) 183,.rd 2 A1 rs.length ((rs).flatMap gy.cells),.rd 4 A2 ls.length ((ls).flatMap Ls.cells)]:=Hw.re [3,2,1,0,4,5,6,7,8,9] dQ;have HC:=aa7 (kd:=3) (k:=k) (id:=id) (bd:=bd) (he:=he) (hn:=hn) EC hk Y Y Y Y (aqh hLs) (aqi hLs);rw[<-show stepM ⟨ep,nx,gv,rs,ls,W⟩ ⟨3,((k:Nat):Int),id,bd,he,hn⟩=Ew ⟨ep,nx,gv,rs,ls,W⟩ he hn from by simp[stepM]]at HC;obtain⟨R,I⟩:∃R,stepM ⟨ep,nx,gv,rs,ls,W⟩ ⟨3,((k:Nat):Int),id,bd,he,hn⟩=R:=⟨_,E⟩;rw[I]at HC;refine wh eQ (HC) ?_;rintro _ asu ⟨rfl,asv,c116,asw,asx,uE⟩;refine⟨_,E,?_⟩;refine zN 3 ?_;refine gB uE sV ?_;intro aIK anu zP;refine sa 0 zP kQ ?_;intro asy RY;refine zN 4 ?_;have xM:=RY.drew;refine aJ 10 xM [6,5] ?_;refine aL 6 ?_;refine aY 6 ?_;refine Zy 6 E 6 xM kQ ?_;intro abd zR;refine dR ?_;refine aY 7 ?_;refine sn 7 E 5 zR kQ ?_;intro asf LQ;refine aL 4 ?_;refine zN 2 ?_;refine dX (rs:=[.cell 4 183,.cell 5 54,.tmp 6,.tmp 7]) (vs:=[.agg (dx R.1.ep R.1.nx R.1.gv (.slice asv R.1.ready.length c116) (.slice asw R.1.bL.length asx) R.1.ws),.agg #[D R.2.1.code,D R.2.1.fG,D R.2.1.hno,D R.2.1.body],.bool R.2.2,D 0]) E ⟨⟨_,E,eZ 6 LQ E underlying183 E kQ⟩,⟨_,E,eZ 5 LQ E underlying54 E kQ⟩,E,E,trivial⟩ ?_;have Gw:=LQ.aO [10,9,8,7,6,5,4,1,0];rw[zk (Q:=⟨ep,nx,gv,rs,ls,W⟩) h0 h1,I];exact⟨asv,c116,asw,asx,E,Gw⟩
   refine vv (v:=.func (.func 124) #[pV h 0] #[]) (kg 0 Hw E E E E underlying3 underlying227 (zeroValue226 _) dQ E) ?_;refine zN 7 ?_;have Gs:St w.heap.size w w60 [.blk h (dx ep nx gv (.slice J rs.length M) (.slice O ls.length Z) W) 219,.own 222 2 (.slice J rs.length M) rs.length ((rs).flatMap gy.cells),.own 225 4 (.slice O ls.length Z) ls.length ((ls).flatMap Ls.cells),.loc b51 (qj prog 3 (λy=>if y=4 then some (.func (.func 124) #[pV h 0] #[])else(λy=>if y=3 then some (.func (.func 123) #[pV h 0] #[])else(λy=>if y=2 then some (.func (.func 122) #[pV h 0] #[])else(λy=>if y=1 then some (.func (.func 121) #[pV h 0] #[])else(λ_=>none) y) y) y) y) 4),.blk b10 #[D 0,D 0,D 0,D 0] 54,.blk b7 (dx 0 0 0 (.slice none 0 0) (.slice none 0 0) jG) 183,.blk b4 #[D 4,D ((k:Nat):Int),D id,D bd,D he,D hn] 49,.blk b1 (dx ep nx gv (.slice A1 rs.length c1) (.slice A2 ls.length c2) W) 183,.rd 2 A1 rs.length ((rs).flatMap gy.cells),.rd 4 A2 ls.length ((ls).flatMap Ls.cells)]:=Hw.re [3,2,1,0,4,5,6,7,8,9] dQ;have HC:=aa8 (kd:=4) (k:=k) (id:=id) (bd:=bd) (he:=he) (hn:=hn) Gs hk Y Y Y Y (akg hRd) hNd;rw[<-show stepM ⟨ep,nx,gv,rs,ls,W⟩ ⟨4,((k:Nat):Int),id,bd,he,hn⟩=Ey ⟨ep,nx,gv,rs,ls,W⟩from by simp[stepM]]at HC;obtain⟨R,I⟩:∃R,stepM ⟨ep,nx,gv,rs,ls,W⟩ ⟨4,((k:Nat):Int),id,bd,he,hn⟩=R:=⟨_,E⟩;rw[I]at HC;refine wh eQ (HC) ?_;rintro _ azM ⟨rfl,ahI,ahJ,abe,abf,RV⟩;refine⟨_,E,?_⟩;refine zN 3 ?_;refine gB RV sV ?_;intro azN azO zS;refine sa 0 zS kQ ?_;intro asz NS;refine zN 4 ?_;have IW:=NS.drew;refine aJ 10 IW [6,5] ?_;refine aL 6 ?_;refine aY 6 ?_;refine Zy 6 E 6 IW kQ ?_;intro asA NT;refine dR ?_;refine aY 7 ?_;refine sn 7 E 5 NT kQ ?_;intro azP IX;refine aL 4 ?_;refine zN 2 ?_;refine dX (rs:=[.cell 4 183,.cell 5 54,.tmp 6,.tmp 7]) (vs:=[.agg (dx R.1.ep R.1.nx R.1.gv (.slice ahI R.1.ready.length ahJ) (.slice abe R.1.bL.length abf) R.1.ws),.agg #[D R.2.1.code,D R.2.1.fG,D R.2.1.hno,D R.2.1.body],.bool R.2.2,D 0]) E ⟨⟨_,E,eZ 6 IX E underlying183 E kQ⟩,⟨_,E,eZ 5 IX E underlying54 E kQ⟩,E,E,trivial⟩ ?_;have yJ:=IX.aO [10,9,8,7,6,5,4,1,0];rw[zk (Q:=⟨ep,nx,gv,rs,ls,W⟩) h0 h1,I];exact⟨ahI,ahJ,abe,abf,E,yJ⟩
  refine zN 2 ?_;refine Cq (vv (v:=.agg (dx 0 0 0 (.slice none 0 0) (.slice none 0 0) jG)) yz ?_);refine zN 2 ?_;refine saq 1 zI kQ ?_;intro azQ asB;refine sa 0 asB kQ ?_;intro anv LU;refine zN 6 ?_;refine dX (rs:=[.cell 4 183,.cell 5 54,.tmp 6,.tmp 7]) (vs:=[.agg (dx 0 0 0 (.slice none 0 0) (.slice none 0 0) jG),.agg #[D 0,D 0,D 0,D 0],.bool false,D (aX ⟨kd,pr,id,bd,he,hn⟩)]) E ⟨⟨_,E,eZ 1 LU E underlying183 E kQ⟩,⟨_,E,eZ 0 LU E underlying54 E kQ⟩,E,E,trivial⟩ ?_;have WR:=LU.aO [5,4,3,2,1,0];rw[QE (Q:=⟨ep,nx,gv,rs,ls,W⟩) h0 h1];exact⟨none,0,none,0,E,J9 WR⟩
 refine zN 2 ?_;refine Cq (vv (v:=.agg (dx 0 0 0 (.slice none 0 0) (.slice none 0 0) jG)) yz ?_);refine zN 2 ?_;refine saq 1 mX kQ ?_;intro azR anw;refine sa 0 anw kQ ?_;intro azS abg;refine zN 6 ?_;refine dX (rs:=[.cell 4 183,.cell 5 54,.tmp 6,.tmp 7]) (vs:=[.agg (dx 0 0 0 (.slice none 0 0) (.slice none 0 0) jG),.agg #[D 0,D 0,D 0,D 0],.bool false,D (fZ ep nx gv rs ls W)]) E ⟨⟨_,E,eZ 1 abg E underlying183 E kQ⟩,⟨_,E,eZ 0 abg E underlying54 E kQ⟩,E,E,trivial⟩ ?_;have WS:=abg.aO [5,4,3,2,1,0];rw[Mt (Q:=⟨ep,nx,gv,rs,ls,W⟩) h0];exact⟨none,0,none,0,E,J9 WS⟩
def IY (e n g:Int)(r l:Value)(W:kK)(a:Value):Array Value:=(D e::D n::D g::r::l::(W.cells++[a])).toArray
section
variable {e n g:Int}{r l a:Value}{W:kK}
def abh:(IY e n g r l W a).size=42:=rfl
def aew:∀(j:Nat) (u:Value),(dx e n g r l W).toList[j]? =some u->(IY e n g r l W a)[0+j]? =some u:=oK (m:=41) E
def akm {h I g':Int}{J l':Value}{W':kK}:cZ (IY e n g r l W a) 0 (dx h I g' J l' W').toList=IY h I g' J l' W' a:=by
 apply Array.toList_inj.1;rw[iq _ _ _ (by rw[abh];show 0+41<=42;omega)];rfl
end
def pO (g:Nat)(Q:Qd)(an:List iR)(A1:Option Addr)(c1:Nat)(A2:Option Addr)(c2:Nat)(A3:Option Addr)(c3:Nat)(fs:List Fact):List Fact:=
 (.blk g (IY Q.ep Q.nx Q.gv (.slice A1 Q.ready.length c1) (.slice A2 Q.bL.length c2) Q.ws (.slice A3 an.length c3)) 199)::(.cK 2 A1 Q.ready.length ((Q.ready).flatMap gy.cells))::(.cK 4 A2 Q.bL.length ((Q.bL).flatMap Ls.cells))::(.own 54 4 (.slice A3 an.length c3) an.length ((an).flatMap iR.cells))::fs
def akn (B:Nat)(w0:World)(g:Nat)(fs:List Fact)(an:List iR)(r:Qd×iR×Bool×Int)(e:Ending)(w':World):Prop:=
 ((r.2.2.2=0/\r.2.2.1=true)->e=.returned (.bool true)/\ ∃A1 c1 A2 c2 A3 c3,St B w0 w' (pO g r.1 (an++[r.2.1]) A1 c1 A2 c2 A3 c3 fs))/\(¬(r.2.2.2=0/\r.2.2.1=true)->e=.returned (.bool false)/\St B w0 w' fs)
def afX (w:World)(r:Qd×List iR×Int)(e:Ending)(w':World):Prop:=
 (r.2.2=0-> ∃g A1 c1 A2 c2 A3 c3,e=.returned (.tuple #[pV g 0,D 0])/\St w.heap.size w w' (pO g r.1 r.2.1 A1 c1 A2 c2 A3 c3 []))/\(r.2.2≠0->e=.returned (.tuple #[.pointer none,D r.2.2])/\Below w.heap.size w w')
def X8 (w:World)(r:Qd×List iR×Int)(e:Ending)(w':World):Prop:= ∃A1 c1 A2 c2,
 e=.returned (.tuple #[.agg (dx r.1.ep r.1.nx r.1.gv (.slice A1 r.1.ready.length c1) (.slice A2 r.1.bL.length c2) r.1.ws),D r.2.2])/\
 St w.heap.size w w' [.cK 2 A1 r.1.ready.length (r.1.ready.flatMap gy.cells),.cK 4 A2 r.1.bL.length (r.1.bL.flatMap Ls.cells)]
def UO (w:World)(r:Qd×List iR×Int)(e:Ending)(w':World):Prop:= ∃A c,
 e=.returned (.tuple #[.slice A r.2.1.length c,D r.2.2])/\St w.heap.size w w' [.cK 4 A r.2.1.length (r.2.1.flatMap iR.cells)]
def abj {B g c1 c2 c3:Nat} {w0 w:World} {fs:List Fact} {A1 A2 A3:Option Addr} {Q:Qd} {an:List iR} {x:Ev} (S:St B w0 w (pO g Q an A1 c1 A2 c2 A3 c3 fs)) (hq:Q.ready.length+Q.bL.length<=501) (ha:an.length<=2000):
    Calls prog 114 #[pV g 0,.agg #[D x.kind,D x.producer,D x.id,D x.body,D x.aN,D x.hno]] w (akn B w0 g fs an (iK Q x)):=by
 unfold pO at S;obtain⟨R,hR⟩:∃R,iK Q x=R:=⟨_,E⟩;refine gK 40 func114 ?_;refine cw [0,1] ?_;refine zN 2 ?_;refine iP S ?_;intro b1 w2 S3;refine zN 3 ?_;refine ny (X:=Nat×Nat×(Option Addr)×Nat×(Option Addr)×Nat) (λM=>[(0,pV g 0),(4,.bool false),(5,pV M.1 0),(6,pV M.2.1 0),(7,.bool R.2.2.1),(8,D R.2.2.2)]) (λM wr=>St B w0 wr ((.blk M.2.1 #[D R.2.1.code,D R.2.1.fG,D R.2.1.hno,D R.2.1.body] 54)::(.blk M.1 (dx R.1.ep R.1.nx R.1.gv (.slice M.2.2.1 R.1.ready.length M.2.2.2.1) (.slice M.2.2.2.2.1 R.1.bL.length M.2.2.2.2.2) R.1.ws) 183)::(.cK 2 M.2.2.1 R.1.ready.length ((R.1.ready).flatMap gy.cells))::(.cK 4 M.2.2.2.2.1 R.1.bL.length ((R.1.bL).flatMap Ls.cells))::(.blk b1 #[D x.kind,D x.producer,D x.id,D x.body,D x.aN,D x.hno] 49)::(.blk g (IY Q.ep Q.nx Q.gv (.slice A1 Q.ready.length c1) (.slice A2 Q.bL.length c2) Q.ws (.slice A3 an.length c3)) 199)::(.cK 2 A1 Q.ready.length ((Q.ready).flatMap gy.cells))::(.cK 4 A2 Q.bL.length ((Q.bL).flatMap Ls.cells))::(.own 54 4 (.slice A3 an.length c3) an.length ((an).flatMap iR.cells))::fs)) ?_ ?_
 ·have S4:=S3.drew;refine aJ 17 S4 [] ?_;refine aL 3 ?_;refine ak (v:=.agg (dx Q.ep Q.nx Q.gv (.slice A1 Q.ready.length c1) (.slice A2 Q.bL.length c2) Q.ws)) 3 E S4 (λ_ Sx8=>(au E E (dS (cs:=(dx Q.ep Q.nx Q.gv (.slice A1 Q.ready.length c1) (.slice A2 Q.bL.length c2) Q.ws).toList) (St.rg 1 Sx8 E (aew))))) ?_;refine dR ?_;refine Sq (n:=11) (r:=5) (s:=11) (t:=12) kQ ?_ ?_ ?_
  ·have HD:=λA1 A2 c1 c2 w h1 J=>xg Q.ep Q.nx Q.gv x.kind x.producer x.id x.body x.aN x.hno A1 A2 c1 c2 Q.ready Q.bL Q.ws w h1 J hQ hQ;rw[show iK ⟨Q.ep,Q.nx,Q.gv,Q.ready,Q.bL,Q.ws⟩ ⟨x.kind,x.producer,x.id,x.body,x.aN,x.hno⟩=R from hR]at HD;refine kD 5 E eQ (HD A1 A2 c1 c2 _ (St.cK 2 S4 E) (St.cK 3 S4 E)) ?_;rintro _ KV ⟨A10,c11,A12,c13,rfl,T16⟩;refine⟨_,E,?_⟩;have jh:=S4.ext T16 E;clear HD;refine aL 6 ?_;refine iB (n:=5) (r:=11) (s:=12) kQ ?_ ?_
   ·refine jZ (i:=11) E E (V:=λb=>pV b 0) (row:=dx 0 0 0 (.slice none 0 0) (.slice none 0 0) jG) (t:=183) jh (wn E) E E (iM E (zeroValue183 _) E) ?_;intro b22 JB jP;refine dR ?_;refine aY 12 ?_;refine lU 12 E jP sV ?_;intro b25 NP tT;refine dR ?_;refine aY 13 ?_;refine Zy 13 E 1 tT kQ ?_;intro Zu uD;refine dR ?_;refine aY 14 ?_;refine sn 14 E 0 uD kQ ?_;intro Zt qB;refine aL 4 ?_;refine dL (b22,b25,A10,c11,A12,c13) ?_ rO;exact qB
   refine lU 12 E jh sV ?_;intro b34 Zv sU;refine dR ?_;refine aY 11 ?_;refine jZ (i:=11) E E (V:=λb=>pV b 0) (row:=dx 0 0 0 (.slice none 0 0) (.slice none 0 0) jG) (t:=183) sU (wn E) E E (iM E (zeroValue183 _) E) ?_;intro b37 w38 BI;refine dR ?_;refine aY 13 ?_;refine Zy 13 E 0 BI kQ ?_;intro w40 Gp;refine dR ?_;refine aY 14 ?_;refine sn 14 E 1 Gp kQ ?_;intro VO tQ;refine aL 4 ?_;have wP:=tQ.eG [8,8,8,8,8,8,8,7,8];refine dL (b37,b34,A10,c11,A12,c13) ?_ rO;exact wP
  ·refine jZ (i:=11) E E (V:=λb=>pV b 0) (row:=dx 0 0 0 (.slice none 0 0) (.slice none 0 0) jG) (t:=183) S4 (wn E) E E (iM E (zeroValue183 _) E) ?_;intro b47 ZA Z;refine dR ?_;refine iB (n:=10) (r:=5) (s:=12) kQ ?_ ?_
   ·have HD:=λA1 A2 c1 c2 w h1 J=>xg Q.ep Q.nx Q.gv x.kind x.producer x.id x.body x.aN x.hno A1 A2 c1 c2 Q.ready Q.bL Q.ws w h1 J hQ hQ;rw[show iK ⟨Q.ep,Q.nx,Q.gv,Q.ready,Q.bL,Q.ws⟩ ⟨x.kind,x.producer,x.id,x.body,x.aN,x.hno⟩=R from hR]at HD;refine kD 5 E eQ (HD A1 A2 c1 c2 _ (St.cK 3 Z E) (St.cK 4 Z E)) ?_;rintro _ w54 ⟨A50,c51,A52,c53,rfl,T56⟩;refine⟨_,E,?_⟩;have vU:=Z.ext T56 E;clear HD;refine aL 6 ?_;refine aY 12 ?_;refine lU 12 E vU sV ?_;intro b62 w63 S64;refine dR ?_;refine aY 13 ?_;refine Zy 13 E 3 S64 kQ ?_;intro w65 Hz;refine dR ?_;refine aY 14 ?_;refine sn 14 E 0 Hz kQ ?_;intro w67 Cy;refine aL 4 ?_;have sS:=Cy.eG [8,8,8,8,8,7,7,8,8];refine dL (b47,b62,A50,c51,A52,c53) ?_ rO;exact sS
   refine lU 12 E Z sV ?_;intro b72 w73 NQ;refine dR ?_;refine aY 5 ?_;have HD:=λA1 A2 c1 c2 w h1 J=>xg Q.ep Q.nx Q.gv x.kind x.producer x.id x.body x.aN x.hno A1 A2 c1 c2 Q.ready Q.bL Q.ws w h1 J hQ hQ;rw[show iK ⟨Q.ep,Q.nx,Q.gv,Q.ready,Q.bL,Q.ws⟩ ⟨x.kind,x.producer,x.id,x.body,x.aN,x.hno⟩=R from hR]at HD;refine kD 5 E eQ (HD A1 A2 c1 c2 _ (St.cK 4 NQ E) (St.cK 5 NQ E)) ?_;rintro _ w79 ⟨A75,c76,A77,c78,rfl,T81⟩;refine⟨_,E,?_⟩;have BK:=NQ.ext T81 E;clear HD;refine aL 6 ?_;refine aY 13 ?_;refine Zy 13 E 3 BK kQ ?_;intro w87 MR;refine dR ?_;refine aY 14 ?_;refine sn 14 E 2 MR kQ ?_;intro w89 S90;refine aL 4 ?_;have Dq:=S90.eG [8,8,8,8,8,6,6,8,8];refine dL (b47,b72,A75,c76,A77,c78) ?_ rO;exact Dq
  refine lU 12 E S4 sV ?_;intro b94 w95 Fz;refine dR ?_;refine iB (n:=10) (r:=5) (s:=11) kQ ?_ ?_
  ·have HD:=λA1 A2 c1 c2 w h1 J=>xg Q.ep Q.nx Q.gv x.kind x.producer x.id x.body x.aN x.hno A1 A2 c1 c2 Q.ready Q.bL Q.ws w h1 J hQ hQ;rw[show iK ⟨Q.ep,Q.nx,Q.gv,Q.ready,Q.bL,Q.ws⟩ ⟨x.kind,x.producer,x.id,x.body,x.aN,x.hno⟩=R from hR]at HD;refine kD 5 E eQ (HD A1 A2 c1 c2 _ (St.cK 3 Fz E) (St.cK 4 Fz E)) ?_;rintro _ asI ⟨A97,c98,A99,azT,rfl,azU⟩;refine⟨_,E,?_⟩;have tq:=Fz.ext azU E;clear HD;refine aL 6 ?_;refine aY 11 ?_;refine jZ (i:=11) E E (V:=λb=>pV b 0) (row:=dx 0 0 0 (.slice none 0 0) (.slice none 0 0) jG) (t:=183) tq (wn E) E E (iM E (zeroValue183 _) E) ?_;intro azV azW abn;refine dR ?_;refine aY 13 ?_;refine Zy 13 E 0 abn kQ ?_;intro abo vE;refine dR ?_;refine aY 14 ?_;refine sn 14 E 3 vE kQ ?_;intro anx qY;refine aL 4 ?_;have wo:=qY.eG [8,8,8,8,8,7,7,7,8];refine dL (azV,b94,A97,c98,A99,azT) ?_ rO;exact wo
  refine jZ (i:=11) E E (V:=λb=>pV b 0) (row:=dx 0 0 0 (.slice none 0 0) (.slice none 0 0) jG) (t:=183) Fz (wn E) E E (iM E (zeroValue183 _) E) ?_;intro azX asJ O;refine dR ?_;refine aY 5 ?_;have HD:=λA1 A2 c1 c2 w h1 J=>xg Q.ep Q.nx Q.gv x.kind x.producer x.id x.body x.aN x.hno A1 A2 c1 c2 Q.ready Q.bL Q.ws w h1 J hQ hQ;rw[show iK ⟨Q.ep,Q.nx,Q.gv,Q.ready,Q.bL,Q.ws⟩ ⟨x.kind,x.producer,x.id,x.body,x.aN,x.hno⟩=R from hR]at HD;refine kD 5 E eQ (HD A1 A2 c1 c2 _ (St.cK 4 O E) (St.cK 5 O E)) ?_;rintro _ anz ⟨azY,azZ,anA,anB,rfl,az0⟩;refine⟨_,E,?_⟩;have RZ:=O.ext az0 E;clear HD;refine aL 6 ?_;refine aY 13 ?_;refine Zy 13 E 2 RZ kQ ?_;intro asK LV;refine dR ?_;refine aY 14 ?_;refine sn 14 E 3 LV kQ ?_;intro abp ED;refine aL 4 ?_;have Gs:=ED.eG [8,8,8,8,8,6,6,7,8];refine dL (azX,b94,azY,azZ,anA,anB) ?_ rO;exact Gs
 rintro⟨az1,asL,abe,abf,R4,c146⟩ asM I
 try dsimp only at I
 refine bH (l':=[(0,pV g 0),(4,.bool false),(5,pV az1 0),(6,pV asL 0),(7,.bool R.2.2.1),(8,D R.2.2.2)]) rO (aM (aM (av (vm ?_))));by_cases h1:R.2.2.2=0
 ·refine zN 3 ?_
  cases J:R.2.2.1
  ·refine zN 13 ?_;rw[show iK Q x=R from hR];have zS:=I.aO [8,7,6,5,4,3,2,1,0];exact⟨λh=>absurd h (λh=>by rw[J]at h;exact absurd h.2 iQ),λ_=>⟨E,zS⟩⟩
  refine zN 13 ?_;refine jF 5 I kQ ?_ (h1:=by exact J4 E E) (hs:=by exact akm);intro asz NS;refine zN 3 ?_;have IW:=NS.drew;refine fK 11 8 IW [8] ?_;iterate 6 refine gU ?_
  refine fC (m:=4) (r:=6) kQ ?_;refine mQ (i:=6) E E (V:=λb=>.slice (aD b 0) 1 1) (row:= #[D R.2.1.code,D R.2.1.fG,D R.2.1.hno,D R.2.1.body]) (t:=54) IW (wn E) E E (aP (vs:=[(0,.agg #[D R.2.1.code,D R.2.1.fG,D R.2.1.hno,D R.2.1.body])]) E xH kQ) ?_;intro aIL az2 abq;refine gU ?_;refine fC (m:=3) (r:=7) kQ ?_;refine lu (i:=7) E E (news:=[D R.2.1.code,D R.2.1.fG,D R.2.1.hno,D R.2.1.body]) (xs':=(an++[R.2.1]).flatMap iR.cells) 9 abq (wn E) E E E E E E (St.mq (xs:=[D R.2.1.code,D R.2.1.fG,D R.2.1.hno,D R.2.1.body]) 0 abq E E E) underlying160 apB E dQ (bP E) lQ Y (jy (enc:=iR.cells) E E) ?_;intro asN asO asP aFw aFx yJ;refine gU ?_;refine fu kQ E E E ?_;refine zN 2 ?_;refine jF (row':=IY R.1.ep R.1.nx R.1.gv (.slice abe R.1.ready.length abf) (.slice R4 R.1.bL.length c146) R.1.ws (.slice asN (an.length+1) asO)) 6 yJ kQ ?_;intro anv LU;refine zQ ?_;refine iX ?_;refine zN 8 ?_;rw[show iK Q x=R from hR];have WR:=LU.aO [8,7,5,2,1,0];have anC:=WR.eG [3,2,2,3];have hal:(an++[R.2.1]).length=an.length+1:=by simp
  refine⟨λ_=>⟨E,abe,abf,R4,c146,asN,asO,?_⟩,λh=>absurd ⟨h1,J⟩ h⟩;unfold pO;rw[hal];exact anC
 refine zN 16 ?_;rw[show iK Q x=R from hR];have anw:=I.aO [8,7,6,5,4,3,2,1,0];exact⟨λh=>absurd h (λh=>h1 h.1),λ_=>⟨E,anw⟩⟩
def KW {l:List Ev}(h:¬(ay l).2.2=0):(ay l).1=dW/\(ay l).2.1=[]:=by
 by_cases I:2000<l.length
 ·rw[NM I];exact⟨E,E⟩
 cases J:gW dW [] l with
 |none=>rw[J7 I J];exact⟨E,E⟩
 |some r=>rw[EA I J]at h;exact absurd E h
def KX (A:Option Addr) (c:Nat) (l:List Ev) (w:World) (h:Rd w w.heap.size 6 A l.length (bq l)) (hl:l.length<=1152921504606846976):
    Calls prog 100 #[.slice A l.length c] w (afX w (ay l)):=by
 have S:=(St.start w).bX h;refine gK 24 func100 ?_;refine cw [0] ?_;refine zN 11 ?_;by_cases h1:2000< ((l.length:Nat):Int)
 ·refine zN 13 ?_;rw[NM Y];exact⟨λh=>absurd h dQ,λ_=>⟨E,S.low⟩⟩
 refine zN 2 ?_;refine afA (vv (v:=.agg (IY 0 0 0 (.slice none 0 0) (.slice none 0 0) jG (.slice none 0 0))) yz ?_);refine iP S ?_;intro b2 w3 S4;refine zN 12 ?_;have S5:=aB (s:=2) (aB (s:=4) (S4.nil 54 4));have S6:St w.heap.size w w3 [_,_,_,_,_]:=S5.re [3,0,1,2,4] dQ;refine fO (X:=Nat×Qd×(List iR)×(Option Addr)×Nat×(Option Addr)×Nat×(Option Addr)×Nat) (λI=>[(2,.pointer none),(3,D 0),(4,pV b2 0),(12,.slice A l.length c),(13,D ((l.length:Nat):Int)),(14,D ((I.1:Nat):Int))]) (λI wr=>(I.1<=l.length)/\(gW dW [] l=gW I.2.1 I.2.2.1 (l.drop I.1))/\(I.2.1.ready.length+I.2.1.bL.length<=501)/\(I.2.2.1.length=I.1)/\St w.heap.size w wr [.blk b2 (IY I.2.1.ep I.2.1.nx I.2.1.gv (.slice I.2.2.2.1 I.2.1.ready.length I.2.2.2.2.1) (.slice I.2.2.2.2.2.1 I.2.1.bL.length I.2.2.2.2.2.2.1) I.2.1.ws (.slice I.2.2.2.2.2.2.2.1 I.2.2.1.length I.2.2.2.2.2.2.2.2)) 199,.cK 2 I.2.2.2.1 I.2.1.ready.length ((I.2.1.ready).flatMap gy.cells),.cK 4 I.2.2.2.2.2.1 I.2.1.bL.length ((I.2.1.bL).flatMap Ls.cells),.own 54 4 (.slice I.2.2.2.2.2.2.2.1 I.2.2.1.length I.2.2.2.2.2.2.2.2) I.2.2.1.length ((I.2.2.1).flatMap iR.cells),.rd 6 A l.length ((l).flatMap Ev.cells)]) (λI=>l.length-I.1) (0,dW,[],none,0,none,0,none,0) ?_ ?_ ?_
 ·exact⟨zero_le _,E,(by simp[dW]),E,S6⟩
 ·exact rO
 rintro⟨k,Q,an,A1,c1,A2,c2,A3,c3⟩ w7 ⟨hi9,M,LY,asQ,S8⟩
 try dsimp only at hi9 M LY asQ S8
 refine bH (l':=[(2,.pointer none),(3,D 0),(4,pV b2 0),(12,.slice A l.length c),(13,D ((l.length:Nat):Int)),(14,D ((k:Nat):Int))]) rO (aM (av ?_));by_cases h13:((k:Nat):Int)< ((l.length:Nat):Int)
 ·refine zN 11 ?_;obtain⟨b14,o15,rfl⟩:=Rd.addr (St.rd 4 S8 E) Y;obtain⟨J,Z⟩:=KQ k (St.rd 4 S8 E) Y;refine vv (kZ k) ?_;refine vv (au E E (dS (cs:=Ev.cells J) (Rd.yB (St.rd 4 S8 E) (λ_ _ h=>dh (enc:=Ev.cells) (sz:=6) (λ_=>E) Z h)))) ?_;refine gB S8 aaO ?_;intro b18 Gn pK;refine sa 0 pK kQ ?_;intro Fq jX;refine zN 6 ?_;have uF:St w.heap.size w Fq [_,_,_,_,_,_]:=jX.re [1,2,3,4,0,5] dQ;obtain⟨R,hR⟩:∃R,iK Q J=R:=⟨_,E⟩;have HA:=abj (fs:=[.blk b18 #[D J.kind,D J.producer,D J.id,D J.body,D J.aN,D J.hno] 49,.rd 6 (aD b14 o15) l.length ((l).flatMap Ev.cells)]) (x:=J) (show St _ _ _ (pO _ _ _ _ _ _ _ _ _ _)from uF) LY Y;rw[hR]at HA;by_cases O:R.2.2.2=0/\R.2.2.1=true
  ·refine dO eQ (HA.mono λ_ _ h=>h.1 O) ?_;rintro _ NU ⟨rfl,A26,c27,A28,c29,A30,c31,lC⟩;refine⟨_,E,?_⟩;clear HA;refine zN 8 ?_;refine vv (v:=D ((k+1:Nat):Int)) jc ?_;refine zN 2 ?_;have uW:St w.heap.size w NU [_,_,_,_,_]:=lC.re [0,1,2,3,5] dQ;refine bQ (k+1,R.1,an++[R.2.1],A26,c27,A28,c29,A30,c31) ?_ rO (by first|omega|(dsimp only;omega));exact⟨uQ,(by dsimp only;rw[M,UK Z (by rw[hR];exact O.1) (by rw[hR];exact O.2),hR]),by dsimp only;exact hR▸ael (by rw[hR];exact O.1),(by dsimp only;rw[length_append,asQ];rfl),uW⟩
  refine dO eQ (HA.mono λ_ _ h=>h.2 O) ?_;rintro _ w33 ⟨rfl,qW⟩;refine⟨_,E,?_⟩;clear HA;refine zN 17 ?_;rw[J7 Y (by rw[M];exact UL Z (by rw[hR];exact O))];exact⟨λh=>absurd h dQ,λ_=>⟨E,qW.low⟩⟩
 refine zN 19 ?_;have Gp:St w.heap.size w w7 [_,_,_,_]:=S8.re [0,1,2,3] dQ;rw[EA (r:=(Q,an)) Y (by rw[M];exact X4 Y)];exact⟨λ_=>⟨b2,A1,c1,A2,c2,A3,c3,E,Gp⟩,λh=>absurd E h⟩
def FB (A:Option Addr) (c:Nat) (l:List Ev) (w:World) (h:Rd w w.heap.size 6 A l.length (bq l)) (hl:l.length<=1152921504606846976):
    Calls prog 83 #[.slice A l.length c] w (X8 w (ay l)):=by
 have S:=(St.start w).bX h;refine gK 19 func83 ?_;refine cw [0] ?_;refine zN 2 ?_;refine lS (V:=λb=>pV b 0) (row:=dx 0 0 0 (.slice none 0 0) (.slice none 0 0) jG) (t:=183) S (wn E) E E (iM E (zeroValue183 _) E) ?_;intro b1 w2 M;refine zN 6 ?_;have HT:=λw h=>KX A c l w h hl;by_cases ht:(ay l).2.2=0
 ·refine dO eQ ((HT _ (St.rd 1 M E)).mono λ_ _ h=>h.1 ht) ?_;rintro _ w4 ⟨b7,A8,c9,I,J,O,Z,rfl,T6⟩;refine⟨_,E,?_⟩;unfold pO at T6;have S5:=M.ext T6 E;clear HT T6 M;change St _ _ _ [.blk b7 (IY ((ay l).1.ep) ((ay l).1.nx) ((ay l).1.gv) (.slice A8 ((ay l).1.ready.length) c9) (.slice I ((ay l).1.bL.length) J) ((ay l).1.ws) (.slice O ((ay l).2.1.length) Z)) 199,.cK 2 A8 ((ay l).1.ready.length) (((ay l).1.ready).flatMap gy.cells),.cK 4 I ((ay l).1.bL.length) (((ay l).1.bL).flatMap Ls.cells),.own 54 4 (.slice O ((ay l).2.1.length) Z) ((ay l).2.1.length) (((ay l).2.1).flatMap iR.cells),.blk b1 (dx 0 0 0 (.slice none 0 0) (.slice none 0 0) jG) 183,.rd 6 A l.length ((l).flatMap Ev.cells)]at S5;refine zN 22 ?_;refine vv (au E E (dS (cs:=(dx ((ay l).1.ep) ((ay l).1.nx) ((ay l).1.gv) (.slice A8 ((ay l).1.ready.length) c9) (.slice I ((ay l).1.bL.length) J) ((ay l).1.ws)).toList) (St.rg 0 S5 E (aew)))) ?_;refine saq 4 S5 kQ ?_;intro KV jh;refine zN 5 ?_;have qK:St w.heap.size w KV [_,_]:=jh.re [1,2] dQ;refine⟨A8,c9,I,J,?_,qK⟩;rw[ht];rfl
 refine dO eQ ((HT _ (St.rd 1 M E)).mono λ_ _ h=>h.2 ht) ?_;rintro _ ML ⟨rfl,T19⟩;refine⟨_,E,?_⟩;have qO:=M.on T19;clear HT T19 M;change St _ _ _ [.blk b1 (dx 0 0 0 (.slice none 0 0) (.slice none 0 0) jG) 183,.rd 6 A l.length ((l).flatMap Ev.cells)]at qO;refine zN 13 ?_;refine Cq (vv (v:=.agg (dx 0 0 0 (.slice none 0 0) (.slice none 0 0) jG)) yz ?_);refine zQ ?_;refine saq 0 qO kQ ?_;intro Zz uV;refine zN 6 ?_;have jX:=uV.aO [1,0];have hz:=KW ht;refine⟨none,0,none,0,?_,?_⟩
 · rw[hz.1];rfl
 · rw[hz.1];exact J9 jX
def M6 (A:Option Addr) (c:Nat) (l:List Ev) (w:World) (h:Rd w w.heap.size 6 A l.length (bq l)) (hl:l.length<=1152921504606846976):
    Calls prog 72 #[.slice A l.length c] w (UO w (ay l)):=by
 have S:=(St.start w).bX h;refine gK 18 func72 ?_;refine cw [0] ?_;refine zN 9 ?_;have HT:=λw h=>KX A c l w h hl;by_cases J:(ay l).2.2=0
 ·refine dO eQ ((HT _ (St.rd 0 S E)).mono λ_ _ h=>h.1 J) ?_;rintro _ w1 ⟨b4,A5,c6,A7,c8,A9,M,rfl,O⟩;refine⟨_,E,?_⟩;unfold pO at O;have S2:=S.ext O E;clear HT O S;refine zN 29 ?_;have Z:St w.heap.size w w1 [_]:=S2.re [3] dQ;have oF:=Z.bF 0 E;refine⟨A9,M,?_,oF⟩;rw[J];rfl
 refine dO eQ ((HT _ (St.rd 0 S E)).mono λ_ _ h=>h.2 J) ?_;rintro _ Ea ⟨rfl,I⟩;refine⟨_,E,?_⟩;have mX:=S.on I;clear HT I S;refine zN 25 ?_;have qK:=mX.aO [0];have hz:=KW J;refine⟨none,0,?_,?_⟩
 · rw[hz.2];rfl
 · rw[hz.2];exact aB qK
def kS (w:World)(r:aQ×Int)(e:Ending)(w':World):Prop:= ∃A c,∃_:r.1.evs.length<=c,e=.returned (.tuple #[.agg #[D r.1.role,D r.1.ep,D r.1.fr,D r.1.tg,D r.1.rd,.slice A r.1.evs.length c],D r.2])/\St w.heap.size w w' [.cK 6 A r.1.evs.length (bq r.1.evs)]
def abt (w:World)(r:aQ×iR×Bool×Int)(e:Ending)(w':World):Prop:= ∃A c,∃_:r.1.evs.length<=c,e=.returned (.tuple #[.agg #[D r.1.role,D r.1.ep,D r.1.fr,D r.1.tg,D r.1.rd,.slice A r.1.evs.length c],r.2.1.val,.bool r.2.2.1,D r.2.2.2])/\St w.heap.size w w' [.cK 6 A r.1.evs.length (bq r.1.evs)]
def SN (w:World)(r:List Ev×Bool×Int)(e:Ending)(w':World):Prop:= ∃A c,∃_:r.1.length<=c,e=.returned (.tuple #[.slice A r.1.length c,.bool r.2.1,D r.2.2])/\St w.heap.size w w' [.cK 6 A r.1.length (bq r.1)]
def SQ (w:World)(ro ep fr tg rd:Int)(l:List Ev)(e:Ending)(w':World):Prop:= ∃A c,e=.returned (.agg #[D ro,D ep,D fr,D tg,D rd,.slice A l.length c])/\St w.heap.size w w' [.own 49 6 (.slice A l.length c) l.length (bq l)]
def kT (n:Int) (w:World):
    Calls tP 73 #[D n] w (Fp w (decide (0<=n/\n<5))):=by
 have S:=St.start w;refine gK 9 func73 ?_;refine cw [0] ?_;refine zN 8 ?_;by_cases h1:0<=n
 ·refine zN 3 ?_;by_cases h:n<5
  ·refine zN 7 ?_;exact⟨reT Y,S.low⟩
  refine zN 7 ?_;exact⟨zD Y,S.low⟩
 refine zN 10 ?_;exact⟨zD Y,S.low⟩
def UQ (ro ep fr tg rd:Int) (A:Option Addr) (c:Nat) (l:List Ev) (w:World) (h:Rd w w.heap.size 6 A l.length (bq l)) (hl:l.length<=1152921504606846976):
    Calls tP 82 #[.agg #[D ro,D ep,D fr,D tg,D rd,.slice A l.length c]] w (Fp w (decide (aZ ⟨ro,ep,fr,tg,rd,l⟩))):=by
 have S:=(St.start w).bX h;refine gK 110 func82 ?_;refine cw [0] ?_;refine zN 2 ?_;refine iP S ?_;intro b1 w2 I;refine zN 8 ?_;by_cases h4:ro=0
 ·refine zN 8 ?_;by_cases h5:0<=ep
  ·refine zN 4 ?_;by_cases h6:ep<=1048576
   ·refine zN 5 ?_;by_cases h7:fr=0
    ·refine zN 5 ?_;by_cases h8:tg=0
     ·refine zN 5 ?_;by_cases h9:rd=0
      ·refine zN 6 ?_;by_cases h10:((l.length:Nat):Int)=0
       ·refine zN 8 ?_;exact⟨reT (by unfold aZ;dsimp only;omega),I.low⟩
       refine zN 8 ?_;exact⟨zD (by unfold aZ;dsimp only;omega),I.low⟩
      refine zN 14 ?_;exact⟨zD (by unfold aZ;dsimp only;omega),I.low⟩
     refine zN 19 ?_;exact⟨zD (by unfold aZ;dsimp only;omega),I.low⟩
    refine zN 24 ?_;exact⟨zD (by unfold aZ;dsimp only;omega),I.low⟩
   refine zN 29 ?_;exact⟨zD (by unfold aZ;dsimp only;omega),I.low⟩
  refine zN 33 ?_;exact⟨zD (by unfold aZ;dsimp only;omega),I.low⟩
 refine zN 11 ?_;by_cases h11:ep<1
 ·refine zN 17 ?_;exact⟨zD (by unfold aZ;dsimp only;omega),I.low⟩
 refine zN 4 ?_;by_cases h12:1048576<ep
 ·refine zN 13 ?_;exact⟨zD (by unfold aZ;dsimp only;omega),I.low⟩
 refine zN 17 ?_;by_cases h13:ro=1
 ·refine zN 9 ?_;by_cases h14:fr=0
  ·refine zN 4 ?_;by_cases h15:tg=0
   ·refine zN 5 ?_;by_cases h16:rd=0
    ·refine zN 9 ?_;exact⟨reT (by unfold aZ;dsimp only;omega),I.low⟩
    refine zN 9 ?_;exact⟨zD (by unfold aZ;dsimp only;omega),I.low⟩
   refine zN 14 ?_;exact⟨zD (by unfold aZ;dsimp only;omega),I.low⟩
  refine zN 18 ?_;exact⟨zD (by unfold aZ;dsimp only;omega),I.low⟩
 refine zN 7 ?_;by_cases h17:ro=2
 ·refine zN 9 ?_;by_cases h18:fr=0
  ·refine zN 4 ?_;by_cases J:0<=tg/\tg<5
   ·have abu:=λ(w:World)=>kT tg w;rw[decide_eq_true J]at abu;refine yG eQ (abu _) ?_;rintro _ Fq ⟨rfl,M⟩;refine⟨_,E,?_⟩;have jX:=I.on M;clear M I;refine zN 4 ?_;by_cases QJ:0<=rd
    ·refine zN 5 ?_;by_cases uG:rd<=4
     ·refine zN 9 ?_;exact⟨reT (by unfold aZ;dsimp only;omega),jX.low⟩
     refine zN 9 ?_;exact⟨zD (by unfold aZ;dsimp only;omega),jX.low⟩
    refine zN 14 ?_;exact⟨zD (by unfold aZ;dsimp only;omega),jX.low⟩
   have asS:=λ(w:World)=>kT tg w;rw[decide_eq_false J]at asS;refine yG eQ (asS _) ?_;rintro _ MN ⟨rfl,O⟩;refine⟨_,E,?_⟩;have sP:=I.on O;clear O I;refine zN 18 ?_;exact⟨zD (by unfold aZ;dsimp only;omega),sP.low⟩
  refine zN 23 ?_;exact⟨zD (by unfold aZ;dsimp only;omega),I.low⟩
 refine zN 7 ?_;by_cases h30:ro=3
 ·refine zN 9 ?_;by_cases h31:fr=0
  ·refine zN 4 ?_;by_cases Z:0<=tg/\tg<5
   ·have asT:=λ(w:World)=>kT tg w;rw[decide_eq_true Z]at asT;refine yG eQ (asT _) ?_;rintro _ ZB ⟨rfl,asU⟩;refine⟨_,E,?_⟩;have zo:=I.on asU;clear asU I;refine zN 4 ?_;by_cases h37:rd=0
    ·refine zN 9 ?_;exact⟨reT (by unfold aZ;dsimp only;omega),zo.low⟩
    refine zN 9 ?_;exact⟨zD (by unfold aZ;dsimp only;omega),zo.low⟩
   have asV:=λ(w:World)=>kT tg w;rw[decide_eq_false Z]at asV;refine yG eQ (asV _) ?_;rintro _ w39 ⟨rfl,asW⟩;refine⟨_,E,?_⟩;have wR:=I.on asW;clear asW I;refine zN 13 ?_;exact⟨zD (by unfold aZ;dsimp only;omega),wR.low⟩
  refine zN 18 ?_;exact⟨zD (by unfold aZ;dsimp only;omega),I.low⟩
 refine zN 7 ?_;by_cases h42:ro=4
 ·refine zN 9 ?_;by_cases asX:0<=fr/\fr<5
  ·have asY:=λ(w:World)=>kT fr w;rw[decide_eq_true asX]at asY;refine dO eQ (asY _) ?_;rintro _ w45 ⟨rfl,WO⟩;refine⟨_,E,?_⟩;have wP:=I.on WO;clear WO I;refine zN 3 ?_;by_cases h48:tg=0
   ·refine zN 5 ?_;by_cases h49:rd=0
    ·refine zN 9 ?_;exact⟨reT (by unfold aZ;dsimp only;omega),wP.low⟩
    refine zN 9 ?_;exact⟨zD (by unfold aZ;dsimp only;omega),wP.low⟩
   refine zN 14 ?_;exact⟨zD (by unfold aZ;dsimp only;omega),wP.low⟩
  have asZ:=λ(w:World)=>kT fr w;rw[decide_eq_false asX]at asZ;refine dO eQ (asZ _) ?_;rintro _ w51 ⟨rfl,as0⟩;refine⟨_,E,?_⟩;have o8:=I.on as0;clear as0 I;refine zN 17 ?_;exact⟨zD (by unfold aZ;dsimp only;omega),o8.low⟩
 refine zN 15 ?_;exact⟨zD (by unfold aZ;dsimp only;omega),I.low⟩
def eB (ro ep fr tg rd:Int) (A:Option Addr) (c:Nat) (l:List Ev) (w:World) (h:Rd w w.heap.size 6 A l.length (bq l)) (hl:l.length<=1152921504606846976):
    Calls tP 62 #[.agg #[D ro,D ep,D fr,D tg,D rd,.slice A l.length c]] w (WM w (aj ⟨ro,ep,fr,tg,rd,l⟩)):=by
 have S:=(St.start w).bX h;refine gK 16 func62 ?_;refine cw [0] ?_;refine zN 2 ?_;refine iP S ?_;intro b1 w2 J;refine zN 7 ?_;have HC:=λ(w:World) (h:Rd w w.heap.size 6 A l.length (bq l))=>UQ ro ep fr tg rd A c l w h hl;by_cases hs:aZ ⟨ro,ep,fr,tg,rd,l⟩
 ·rw[decide_eq_true hs]at HC;refine dO eQ (HC _ (St.rd 1 J E)) ?_;rintro _ w4 ⟨rfl,M⟩;refine⟨_,E,?_⟩;have S5:=J.on M;clear M J;refine zN 11 ?_;refine dO eQ (FB A c l _ (St.rd 1 S5 E) Y) ?_;rintro _ Ht ⟨A7,c8,A9,c10,rfl,Z⟩;refine⟨_,E,?_⟩;have oF:=S5.ext Z E;refine zN 3 ?_;refine lS (V:=λb=>pV b 0) (row:=dx 0 0 0 (.slice none 0 0) (.slice none 0 0) jG) (t:=183) oF (wn E) E E (iM E (zeroValue183 _) E) ?_;intro b14 KY qK;refine saq 0 qK kQ ?_;intro ML O;refine zN 6 ?_;by_cases h19:(ay l).2.2=0
  ·refine zN 13 ?_;exact⟨gZ (by first|exact(lK ‹_› ‹_›).symm|exact(J8 ‹_›).symm|exact(PX (b:=⟨ro,ep,fr,tg,rd,l⟩) ‹_›).symm),O.low⟩
  refine zN 12 ?_;exact⟨gZ (by first|exact(lK ‹_› ‹_›).symm|exact(J8 ‹_›).symm|exact(PX (b:=⟨ro,ep,fr,tg,rd,l⟩) ‹_›).symm),O.low⟩
 rw[decide_eq_false hs]at HC;refine dO eQ (HC _ (St.rd 1 J E)) ?_;rintro _ Zz ⟨rfl,I⟩;refine⟨_,E,?_⟩;have uV:=J.on I;clear I J;refine zN 12 ?_;exact⟨gZ (by first|exact(lK ‹_› ‹_›).symm|exact(J8 ‹_›).symm|exact(PX (b:=⟨ro,ep,fr,tg,rd,l⟩) ‹_›).symm),uV.low⟩
def aqp {l k:List Ev}:l.flatMap Ev.cells++k.flatMap Ev.cells=(l++k).flatMap Ev.cells:=by simp
def mg (A:Option Addr) (n c:Nat) (l:List Value) (w:World) (h:Rd w w.heap.size 6 A n l) (I: ∀ u∈l,u.oneCell'=true) (Z:n*48<=reachBytes):
    Calls tP 99 #[.slice A n c] w (jw w 49 6 n l):=by
 unfold reachBytes at Z;have S:=(St.start w).bX h;refine gK 8 func99 ?_;refine cw [0] ?_;refine zN 9 ?_
 cases A with
 |none=>
  obtain⟨rfl,rfl⟩:=IL h;refine vv (v:=.bool true) (bC E E E (vI underlying40)) ?_;refine zN 11 ?_;exact jw.of (Below.refl _ _) (jf _ _ _ _)
 |some a=>
  refine vv (v:=.bool false) (bC E E E (vI underlying40)) ?_;refine zN 7 ?_;refine qV (V:=λb=>.slice (aD b 0) 0 0) (row:= #[]) (t:=49) (n:=0) (s:=6) (xs:=[]) S (wn E) E E (aP (vs:=[]) E trivial kQ) iQ (zero_le _) E ?_;intro b1 w2 M;refine zQ ?_;refine dU (news:=l) (xs':=l) 0 M (wn E) E E E E E E (St.rd 1 M E) underlying40 qJ E dQ I lQ Y E ?_;intro A4 c5 w6 hc8 zl S7;refine zN 5 ?_;have J:=S7.aO [1];have O:=J.own 0 E;simp only[Nat.zero_add]at O⊢;exact jw.of J.low O
def rF (ro ep fr tg rd:Int) (A:Option Addr) (c:Nat) (l:List Ev) (A':Option Addr) (c':Nat) (k:List Ev) (w:World) (h:Rd w w.heap.size 6 A l.length (bq l)) (h':Rd w w.heap.size 6 A' k.length (bq k)) (hb:(l.length+k.length)*48<=reachBytes):
    Calls tP 71 #[.agg #[D ro,D ep,D fr,D tg,D rd,.slice A l.length c],.slice A' k.length c'] w (SQ w ro ep fr tg rd (l++k)):=by
 have S:=((St.start w).bX h').bX h;clear h h';unfold reachBytes at hb;refine gK 12 func71 ?_;refine cw [0,1] ?_;refine zN 2 ?_;refine iP S ?_;intro b1 w2 S3;refine gB S3 gu ?_;intro b4 w5 S6;refine zN 6 ?_;refine dO eQ (mg A l.length c _ _ (St.rd 2 S6 E) (fM l) hQ) ?_;rintro _ Ht ⟨A7,c8,rfl,O,I⟩;refine⟨_,E,?_⟩;have J:=S6.uj O I;refine zQ ?_;refine dU (news:=(k).flatMap Ev.cells) (xs':=(l++k).flatMap Ev.cells) 0 J (wn E) E E E E E E (St.rd 4 J E) underlying40 qJ E dQ (fM _) lQ Y (aqp) ?_;intro Z c14 KY hc17 hm18 qK;refine zQ ?_;refine Hl 2 qK kQ ?_;intro Gn pK;refine zN 5 ?_;refine sa 1 pK kQ ?_;intro Fq jX;refine zN 4 ?_;have M:=jX.aO [4,3,2,1];have hl:(l++k).length=l.length+k.length:=length_append;rw[<-hl]at M;exact⟨Z,c14,by rw[hl];rfl,M⟩
def jk (ro ep fr tg rd:Int)(A:Option Addr)(c:Nat)(l:List Ev)(w:World)(h:Rd w w.heap.size 6 A l.length (bq l))(I:l.length*48<=reachBytes):
  Calls tP 71 #[.agg #[D ro,D ep,D fr,D tg,D rd,.slice A l.length c],.slice none 0 0] w (SQ w ro ep fr tg rd l):=by
 have:=rF ro ep fr tg rd A c l none 0 [] w h Rd.none_ (by simpa using I);rw[append_nil]at this;exact this
def KZ (ro ep fr tg rd:Int) (A:Option Addr) (c:Nat) (l:List Ev) (e:Int) (w:World) (h:Rd w w.heap.size 6 A l.length (bq l)) (hb:l.length*48<=reachBytes):
    Calls prog 43 #[.agg #[D ro,D ep,D fr,D tg,D rd,.slice A l.length c],D e] w (kS w (iT ⟨ro,ep,fr,tg,rd,l⟩ e)):=by
 have S:=(St.start w).bX h;have O:=hb;unfold reachBytes at O;refine gK 35 func43 ?_;refine cw [0,1] ?_;refine zN 2 ?_;refine iP S ?_;intro b1 w2 S3;refine gB S3 gu ?_;intro b4 w5 S6;refine zN 7 ?_;refine cab eQ S6 (eB ro ep fr tg rd A c l _ (St.rd 2 S6 E) Y) ?_;intro w7 I;refine zN 7 ?_;by_cases J:aj ⟨ro,ep,fr,tg,rd,l⟩=0
 ·have M:=(eP J).1;unfold aZ at M;have Z:=gJ (eP J).2;dsimp only at M Z;refine zN 8 ?_;by_cases h11:e<1
  ·refine zN 11 ?_;refine vv jo ?_;refine sa 0 I kQ ?_;intro w12 SK;refine zN 7 ?_;have mX:=SK.aO [2,1,0];rw[show iT ⟨ro,ep,fr,tg,rd,l⟩ e=(⟨0,0,0,0,0,[]⟩,2)from by unfold iT;(try dsimp only);exact kV];exact⟨none,0,mD,E,aB mX⟩
  refine zN 3 ?_;by_cases h15:1048576<e
  ·refine zN 8 ?_;refine vv jo ?_;refine sa 0 I kQ ?_;intro w16 zI;refine zN 7 ?_;have qO:=zI.aO [2,1,0];rw[show iT ⟨ro,ep,fr,tg,rd,l⟩ e=(⟨0,0,0,0,0,[]⟩,2)from by unfold iT;(try dsimp only);exact kV];exact⟨none,0,mD,E,aB qO⟩
  refine zN 10 ?_;by_cases h19:ro=0
  ·refine zN 10 ?_;by_cases h20:e<=ep
   ·refine zN 7 ?_;refine vv jo ?_;refine sa 0 I kQ ?_;intro Fq jX;refine zN 7 ?_;have uF:=jX.aO [2,1,0];rw[show iT ⟨ro,ep,fr,tg,rd,l⟩ e=(⟨0,0,0,0,0,[]⟩,15)from by unfold iT;(try dsimp only);exact kV];exact⟨none,0,mD,E,aB uF⟩
   refine zN 11 ?_;refine vv (v:=.agg #[D 1,D e,D 0,D 0,D 0,.slice none 0 0]) gG ?_;refine sa 0 I kQ ?_;intro NU lC;refine zN 5 ?_;have sI:=lC.aO [2,1,0];rw[show iT ⟨ro,ep,fr,tg,rd,l⟩ e=(⟨1,e,0,0,0,[]⟩,0)from by unfold iT;(try dsimp only);exact kV];exact⟨none,0,mD,E,aB sI⟩
  refine zN 7 ?_;refine vv jo ?_;refine sa 0 I kQ ?_;intro MN sP;refine zN 7 ?_;have uD:=sP.aO [2,1,0];rw[show iT ⟨ro,ep,fr,tg,rd,l⟩ e=(⟨0,0,0,0,0,[]⟩,8)from by unfold iT;(try dsimp only);exact kV];exact⟨none,0,mD,E,aB uD⟩
 refine zN 7 ?_;refine vv jo ?_;refine zQ ?_;refine sa 0 I kQ ?_;intro Zt qB;refine zN 7 ?_;have uW:=qB.aO [2,1,0];rw[show iT ⟨ro,ep,fr,tg,rd,l⟩ e=(⟨0,0,0,0,0,[]⟩,aj ⟨ro,ep,fr,tg,rd,l⟩)from by unfold iT;(try dsimp only);exact kV];exact⟨none,0,mD,E,aB uW⟩
def afY (ro ep fr tg rd:Int) (A:Option Addr) (c:Nat) (l:List Ev) (t:Int) (w:World) (h:Rd w w.heap.size 6 A l.length (bq l)) (hb:l.length*48<=reachBytes):
    Calls prog 57 #[.agg #[D ro,D ep,D fr,D tg,D rd,.slice A l.length c],D t] w (kS w (uw ⟨ro,ep,fr,tg,rd,l⟩ t)):=by
 have S:=(St.start w).bX h;have hb2:=hb;unfold reachBytes at hb2;refine gK 44 func57 ?_;refine cw [0,1] ?_;refine zN 2 ?_;refine iP S ?_;intro b1 w2 S3;refine gB S3 gu ?_;intro b4 w5 S6;refine zN 7 ?_;refine cab eQ S6 (eB ro ep fr tg rd A c l _ (St.rd 2 S6 E) Y) ?_;intro w7 Z;refine zN 7 ?_;by_cases h10:aj ⟨ro,ep,fr,tg,rd,l⟩=0
 ·have hsh:=(eP h10).1;unfold aZ at hsh;have hln:=gJ (eP h10).2;dsimp only at hsh hln;refine zN 8 ?_;by_cases J:0<=t/\t<5
  ·have as1:=λ(w:World)=>kT t w;rw[decide_eq_true J]at as1;refine dO eQ (as1 _) ?_;rintro _ Ea ⟨rfl,M⟩;refine⟨_,E,?_⟩;have I:=Z.on M;clear M Z;refine zN 9 ?_;by_cases h16:ro=2
   ·refine zN 12 ?_;refine vv jo ?_;refine sa 0 I kQ ?_;intro ML qO;refine zN 7 ?_;have uz:=qO.aO [2,1,0];rw[show uw ⟨ro,ep,fr,tg,rd,l⟩ t=(⟨0,0,0,0,0,[]⟩,12)from by unfold uw;(try dsimp only);exact kV];exact⟨none,0,mD,E,aB uz⟩
   refine zN 4 ?_;by_cases h20:ro=3
   ·refine zN 8 ?_;refine vv jo ?_;refine sa 0 I kQ ?_;intro Fq jX;refine zN 7 ?_;have uF:=jX.aO [2,1,0];rw[show uw ⟨ro,ep,fr,tg,rd,l⟩ t=(⟨0,0,0,0,0,[]⟩,12)from by unfold uw;(try dsimp only);exact kV];exact⟨none,0,mD,E,aB uF⟩
   refine zN 10 ?_;by_cases QJ:ro=1
   ·refine zN 9 ?_;by_cases uG:ep=1048576
    ·refine zN 7 ?_;refine vv jo ?_;refine sa 0 I kQ ?_;intro NP tT;refine zN 7 ?_;have sP:=tT.aO [2,1,0];rw[show uw ⟨ro,ep,fr,tg,rd,l⟩ t=(⟨0,0,0,0,0,[]⟩,14)from by unfold uw;(try dsimp only);exact kV];exact⟨none,0,mD,E,aB sP⟩
    refine zN 12 ?_;refine Hl 1 I kQ ?_;intro w29 BH;refine zQ ?_;refine Hl 1 BH kQ ?_;intro w31 uW;refine zN 5 ?_;refine dO eQ (jk 2 ep fr t rd A c l _ (St.rd 2 uW E) hb) ?_;rintro _ Zv ⟨A33,c34,rfl,T37⟩;refine⟨_,E,?_⟩;have sU:=uW.ext T37 E;refine sa 1 sU kQ ?_;intro w38 BI;refine zN 5 ?_;have wR:=BI.aO [3,2,1];have hcp:=(eu (wR.own 0 E)).1;have Gp:=wR.bF 0 E;rw[show uw ⟨ro,ep,fr,tg,rd,l⟩ t=(⟨2,ep,fr,t,rd,l⟩,0)from by unfold uw;(try dsimp only);exact kV];exact⟨A33,c34,mD,E,Gp⟩
   refine zN 7 ?_;refine vv jo ?_;refine sa 0 I kQ ?_;intro VO tQ;refine zN 7 ?_;have Fw:=tQ.aO [2,1,0];rw[show uw ⟨ro,ep,fr,tg,rd,l⟩ t=(⟨0,0,0,0,0,[]⟩,7)from by unfold uw;(try dsimp only);exact kV];exact⟨none,0,mD,E,aB Fw⟩
  have as2:=λ(w:World)=>kT t w;rw[decide_eq_false J]at as2;refine dO eQ (as2 _) ?_;rintro _ ZC ⟨rfl,O⟩;refine⟨_,E,?_⟩;have zn:=Z.on O;clear O Z;refine zN 7 ?_;refine vv jo ?_;refine sa 0 zn kQ ?_;intro w49 xL;refine zN 7 ?_;have vT:=xL.aO [2,1,0];rw[show uw ⟨ro,ep,fr,tg,rd,l⟩ t=(⟨0,0,0,0,0,[]⟩,2)from by unfold uw;(try dsimp only);exact kV];exact⟨none,0,mD,E,aB vT⟩
 refine zN 7 ?_;refine vv jo ?_;refine zQ ?_;refine sa 0 Z kQ ?_;intro w52 Cv;refine zN 7 ?_;have uH:=Cv.aO [2,1,0];rw[show uw ⟨ro,ep,fr,tg,rd,l⟩ t=(⟨0,0,0,0,0,[]⟩,aj ⟨ro,ep,fr,tg,rd,l⟩)from by unfold uw;(try dsimp only);exact kV];exact⟨none,0,mD,E,aB uH⟩
def QO (ro ep fr tg rd:Int) (A:Option Addr) (c:Nat) (l:List Ev) (hv:Int) (w:World) (h:Rd w w.heap.size 6 A l.length (bq l)) (M:l.length*48<=reachBytes):
    Calls prog 92 #[.agg #[D ro,D ep,D fr,D tg,D rd,.slice A l.length c],D hv] w (kS w (bE ⟨ro,ep,fr,tg,rd,l⟩ hv)):=by
 have S:=(St.start w).bX h;have hb2:=M;unfold reachBytes at hb2;refine gK 55 func92 ?_;refine cw [0,1] ?_;refine zN 2 ?_;refine iP S ?_;intro b1 w2 S3;refine gB S3 gu ?_;intro b4 w5 S6;refine zN 7 ?_;refine cab eQ S6 (eB ro ep fr tg rd A c l _ (St.rd 2 S6 E) Y) ?_;intro w7 I;refine zN 6 ?_;by_cases O:aj ⟨ro,ep,fr,tg,rd,l⟩=0
 ·have Z:=(eP O).1;unfold aZ at Z;have hln:=gJ (eP O).2;dsimp only at Z hln;refine zN 11 ?_;by_cases h11:ro=2
  ·refine zN 15 ?_;by_cases h12:hv<0
   ·refine zN 13 ?_;refine vv jo ?_;refine sa 0 I kQ ?_;intro Ea mX;refine zN 6 ?_;have jh:=mX.aO [2,1,0];rw[show bE ⟨ro,ep,fr,tg,rd,l⟩ hv=(⟨0,0,0,0,0,[]⟩,2)from by unfold bE;(try dsimp only);exact kV];exact⟨none,0,mD,E,aB jh⟩
   refine zN 6 ?_;by_cases h16:((l.length:Nat):Int)<hv
   ·refine zN 7 ?_;refine vv jo ?_;refine sa 0 I kQ ?_;intro ML qO;refine zN 6 ?_;have uz:=qO.aO [2,1,0];rw[show bE ⟨ro,ep,fr,tg,rd,l⟩ hv=(⟨0,0,0,0,0,[]⟩,2)from by unfold bE;(try dsimp only);exact kV];exact⟨none,0,mD,E,aB uz⟩
   refine zN 24 ?_;by_cases h20:hv=((l.length:Nat):Int)
   ·refine zN 12 ?_;refine Hl 1 I kQ ?_;intro Fq jX;refine zQ ?_;refine Hl 1 jX kQ ?_;intro JB jP;refine zN 6 ?_;refine dO eQ (jk 3 ep fr tg 0 A c l _ (St.rd 2 jP E) M) ?_;rintro _ MN ⟨A25,c26,rfl,T29⟩;refine⟨_,E,?_⟩;have sP:=jP.ext T29 E;refine sa 1 sP kQ ?_;intro Zt qB;refine zN 5 ?_;have uW:=qB.aO [3,2,1];have J:=(eu (uW.own 0 E)).1;have tX:=uW.bF 0 E;rw[show bE ⟨ro,ep,fr,tg,rd,l⟩ hv=(⟨3,ep,fr,tg,0,l⟩,0)from by unfold bE;(try dsimp only);exact kV];exact⟨A25,c26,mD,E,tX⟩
   refine zN 4 ?_;by_cases h34:rd=4
   ·refine zN 8 ?_;refine Hl 1 I kQ ?_;intro Zv sU;refine zQ ?_;refine Hl 1 sU kQ ?_;intro ZE yC;refine zN 6 ?_;refine dO eQ (jk 3 ep fr tg 0 A c l _ (St.rd 2 yC E) M) ?_;rintro _ w41 ⟨A39,c40,rfl,T43⟩;refine⟨_,E,?_⟩;have Cx:=yC.ext T43 E;refine sa 1 Cx kQ ?_;intro QK qC;refine zN 5 ?_;have wP:=qC.aO [3,2,1];have J:=(eu (wP.own 0 E)).1;have zn:=wP.bF 0 E;rw[show bE ⟨ro,ep,fr,tg,rd,l⟩ hv=(⟨3,ep,fr,tg,0,l⟩,0)from by unfold bE;(try dsimp only);exact kV];exact⟨A39,c40,mD,E,zn⟩
   refine zN 9 ?_;refine vv (v:=D (rd+1)) jc ?_;refine zQ ?_;refine Hl 1 I kQ ?_;intro ZA xO;refine zN 6 ?_;refine dO eQ (jk ro ep fr tg (rd+1) A c l _ (St.rd 2 xO E) M) ?_;rintro _ w52 ⟨A50,c51,rfl,T54⟩;refine⟨_,E,?_⟩;have Cv:=xO.ext T54 E;refine sa 1 Cv kQ ?_;intro w55 VR;refine zN 5 ?_;have vJ:=VR.aO [3,2,1];have J:=(eu (vJ.own 0 E)).1;have Du:=vJ.bF 0 E;rw[show bE ⟨ro,ep,fr,tg,rd,l⟩ hv=(⟨ro,ep,fr,tg,rd+1,l⟩,0)from by unfold bE;(try dsimp only);exact kV];exact⟨A50,c51,mD,E,Du⟩
  refine zN 4 ?_;by_cases h59:ro=3
  ·refine zN 11 ?_;by_cases h60:hv<0
   ·refine zN 13 ?_;refine vv jo ?_;refine sa 0 I kQ ?_;intro w61 JC;refine zN 6 ?_;have wO:=JC.aO [2,1,0];rw[show bE ⟨ro,ep,fr,tg,rd,l⟩ hv=(⟨0,0,0,0,0,[]⟩,2)from by unfold bE;(try dsimp only);exact kV];exact⟨none,0,mD,E,aB wO⟩
   refine zN 6 ?_;by_cases h64:((l.length:Nat):Int)<hv
   ·refine zN 7 ?_;refine vv jo ?_;refine sa 0 I kQ ?_;intro w65 Hz;refine zN 6 ?_;have uy:=Hz.aO [2,1,0];rw[show bE ⟨ro,ep,fr,tg,rd,l⟩ hv=(⟨0,0,0,0,0,[]⟩,2)from by unfold bE;(try dsimp only);exact kV];exact⟨none,0,mD,E,aB uy⟩
   refine zN 24 ?_;refine dO eQ (jk ro ep fr tg rd A c l _ (St.rd 2 I E) M) ?_;rintro _ w70 ⟨A68,c69,rfl,T72⟩;refine⟨_,E,?_⟩;have sS:=I.ext T72 E;refine sa 1 sS kQ ?_;intro w73 NQ;refine zN 5 ?_;have Gq:=NQ.aO [3,2,1];have J:=(eu (Gq.own 0 E)).1;have MP:=Gq.bF 0 E;rw[show bE ⟨ro,ep,fr,tg,rd,l⟩ hv=(⟨ro,ep,fr,tg,rd,l⟩,0)from by unfold bE;(try dsimp only);exact kV];exact⟨A68,c69,mD,E,MP⟩
  refine zN 7 ?_;refine vv jo ?_;refine sa 0 I kQ ?_;intro w77 JD;refine zN 6 ?_;have Dn:=JD.aO [2,1,0];rw[show bE ⟨ro,ep,fr,tg,rd,l⟩ hv=(⟨0,0,0,0,0,[]⟩,7)from by unfold bE;(try dsimp only);exact kV];exact⟨none,0,mD,E,aB Dn⟩
 refine zN 6 ?_;refine vv jo ?_;refine zQ ?_;refine sa 0 I kQ ?_;intro w80 vK;refine zN 6 ?_;have S82:=vK.aO [2,1,0];rw[show bE ⟨ro,ep,fr,tg,rd,l⟩ hv=(⟨0,0,0,0,0,[]⟩,aj ⟨ro,ep,fr,tg,rd,l⟩)from by unfold bE;(try dsimp only);exact kV];exact⟨none,0,mD,E,aB S82⟩
def HY (ro ep fr tg rd:Int) (A:Option Addr) (c:Nat) (l:List Ev) (e f:Int) (w:World) (h:Rd w w.heap.size 6 A l.length (bq l)) (hb:l.length*48<=reachBytes):
    Calls prog 89 #[.agg #[D ro,D ep,D fr,D tg,D rd,.slice A l.length c],D e,D f] w (kS w (dn ⟨ro,ep,fr,tg,rd,l⟩ e f)):=by
 have S:=(St.start w).bX h;have hb2:=hb;unfold reachBytes at hb2;refine gK 66 func89 ?_;refine cw [0,1,2] ?_;refine zN 2 ?_;refine iP S ?_;intro b1 w2 S3;refine gB S3 gu ?_;intro b4 w5 S6;refine zN 7 ?_;refine cab eQ S6 (eB ro ep fr tg rd A c l _ (St.rd 2 S6 E) Y) ?_;intro w7 Z;refine zN 7 ?_;by_cases h10:aj ⟨ro,ep,fr,tg,rd,l⟩=0
 ·have hsh:=(eP h10).1;unfold aZ at hsh;have hln:=gJ (eP h10).2;dsimp only at hsh hln;refine zN 8 ?_;by_cases h11:e<1
  ·refine zN 16 ?_;refine vv jo ?_;refine sa 0 Z kQ ?_;intro w12 SK;refine zN 7 ?_;have mX:=SK.aO [2,1,0];rw[show dn ⟨ro,ep,fr,tg,rd,l⟩ e f=(⟨0,0,0,0,0,[]⟩,2)from by unfold dn;(try dsimp only);exact kV];exact⟨none,0,mD,E,aB mX⟩
  refine zN 3 ?_;by_cases h15:1048576<e
  ·refine zN 13 ?_;refine vv jo ?_;refine sa 0 Z kQ ?_;intro w16 zI;refine zN 7 ?_;have qO:=zI.aO [2,1,0];rw[show dn ⟨ro,ep,fr,tg,rd,l⟩ e f=(⟨0,0,0,0,0,[]⟩,2)from by unfold dn;(try dsimp only);exact kV];exact⟨none,0,mD,E,aB qO⟩
  refine zN 4 ?_;by_cases J:0<=f/\f<5
  ·have abu:=λ(w:World)=>kT f w;rw[decide_eq_true J]at abu;refine yG eQ (abu _) ?_;rintro _ Fq ⟨rfl,M⟩;refine⟨_,E,?_⟩;have I:=Z.on M;clear M Z;refine zN 10 ?_;by_cases QJ:ro=0
   ·refine zN 36 ?_;by_cases uG:e<=ep
    ·refine zN 7 ?_;refine vv jo ?_;refine sa 0 I kQ ?_;intro NP tT;refine zN 7 ?_;have sP:=tT.aO [2,1,0];rw[show dn ⟨ro,ep,fr,tg,rd,l⟩ e f=(⟨0,0,0,0,0,[]⟩,15)from by unfold dn;(try dsimp only);exact kV];exact⟨none,0,mD,E,aB sP⟩
    refine zN 12 ?_;refine vv (v:=.agg #[D 4,D e,D f,D 0,D 0,.slice none 0 0]) gG ?_;refine sa 0 I kQ ?_;intro w29 BH;refine zN 5 ?_;have qB:=BH.aO [2,1,0];rw[show dn ⟨ro,ep,fr,tg,rd,l⟩ e f=(⟨4,e,f,0,0,[]⟩,0)from by unfold dn;(try dsimp only);exact kV];exact⟨none,0,mD,E,aB qB⟩
   refine zN 4 ?_;by_cases h32:ro=4
   ·refine zN 15 ?_;by_cases h33:ep=e
    ·refine zN 6 ?_;by_cases h34:fr=f
     ·refine zN 9 ?_;refine dO eQ (jk ro ep fr tg rd A c l _ (St.rd 2 I E) hb) ?_;rintro _ ZE ⟨A35,c36,rfl,T39⟩;refine⟨_,E,?_⟩;have yC:=I.ext T39 E;refine sa 1 yC kQ ?_;intro w40 Gp;refine zN 7 ?_;have Cx:=Gp.aO [3,2,1];have hcp:=(eu (Cx.own 0 E)).1;have tQ:=Cx.bF 0 E;rw[show dn ⟨ro,ep,fr,tg,rd,l⟩ e f=(⟨ro,ep,fr,tg,rd,l⟩,0)from by unfold dn;(try dsimp only);exact kV];exact⟨A35,c36,mD,E,tQ⟩
     refine zN 11 ?_;by_cases h44:e<=ep
     ·refine zN 7 ?_;refine vv jo ?_;refine sa 0 I kQ ?_;intro w45 wP;refine zN 7 ?_;have zn:=wP.aO [2,1,0];rw[show dn ⟨ro,ep,fr,tg,rd,l⟩ e f=(⟨0,0,0,0,0,[]⟩,15)from by unfold dn;(try dsimp only);exact kV];exact⟨none,0,mD,E,aB zn⟩
     refine zN 12 ?_;refine vv (v:=.agg #[D 4,D e,D f,D 0,D 0,.slice none 0 0]) gG ?_;refine sa 0 I kQ ?_;intro ZA xO;refine zN 5 ?_;have xL:=xO.aO [2,1,0];rw[show dn ⟨ro,ep,fr,tg,rd,l⟩ e f=(⟨4,e,f,0,0,[]⟩,0)from by unfold dn;(try dsimp only);exact kV];exact⟨none,0,mD,E,aB xL⟩
    refine zN 17 ?_;by_cases h51:e<=ep
    ·refine zN 7 ?_;refine vv jo ?_;refine sa 0 I kQ ?_;intro w52 Cv;refine zN 7 ?_;have uH:=Cv.aO [2,1,0];rw[show dn ⟨ro,ep,fr,tg,rd,l⟩ e f=(⟨0,0,0,0,0,[]⟩,15)from by unfold dn;(try dsimp only);exact kV];exact⟨none,0,mD,E,aB uH⟩
    refine zN 12 ?_;refine vv (v:=.agg #[D 4,D e,D f,D 0,D 0,.slice none 0 0]) gG ?_;refine sa 0 I kQ ?_;intro w55 VR;refine zN 5 ?_;have vJ:=VR.aO [2,1,0];rw[show dn ⟨ro,ep,fr,tg,rd,l⟩ e f=(⟨4,e,f,0,0,[]⟩,0)from by unfold dn;(try dsimp only);exact kV];exact⟨none,0,mD,E,aB vJ⟩
   refine zN 8 ?_;refine vv jo ?_;refine sa 0 I kQ ?_;intro w58 BJ;refine zN 7 ?_;have VT:=BJ.aO [2,1,0];rw[show dn ⟨ro,ep,fr,tg,rd,l⟩ e f=(⟨0,0,0,0,0,[]⟩,8)from by unfold dn;(try dsimp only);exact kV];exact⟨none,0,mD,E,aB VT⟩
  have as6:=λ(w:World)=>kT f w;rw[decide_eq_false J]at as6;refine yG eQ (as6 _) ?_;rintro _ Zx ⟨rfl,O⟩;refine⟨_,E,?_⟩;have wO:=Z.on O;clear O Z;refine zN 8 ?_;refine vv jo ?_;refine sa 0 wO kQ ?_;intro w65 Hz;refine zN 7 ?_;have uy:=Hz.aO [2,1,0];rw[show dn ⟨ro,ep,fr,tg,rd,l⟩ e f=(⟨0,0,0,0,0,[]⟩,2)from by unfold dn;(try dsimp only);exact kV];exact⟨none,0,mD,E,aB uy⟩
 refine zN 7 ?_;refine vv jo ?_;refine zQ ?_;refine sa 0 Z kQ ?_;intro w68 Ak;refine zN 7 ?_;have zJ:=Ak.aO [2,1,0];rw[show dn ⟨ro,ep,fr,tg,rd,l⟩ e f=(⟨0,0,0,0,0,[]⟩,aj ⟨ro,ep,fr,tg,rd,l⟩)from by unfold dn;(try dsimp only);exact kV];exact⟨none,0,mD,E,aB zJ⟩
def FC (ro ep fr tg rd:Int) (A:Option Addr) (c:Nat) (l:List Ev) (e:Int) (w:World) (h:Rd w w.heap.size 6 A l.length (bq l)) (hb:l.length*48<=reachBytes):
    Calls prog 97 #[.agg #[D ro,D ep,D fr,D tg,D rd,.slice A l.length c],D e] w (kS w (fP ⟨ro,ep,fr,tg,rd,l⟩ e)):=by
 have S:=(St.start w).bX h;have O:=hb;unfold reachBytes at O;refine gK 28 func97 ?_;refine cw [0,1] ?_;refine zN 2 ?_;refine iP S ?_;intro b1 w2 S3;refine gB S3 gu ?_;intro b4 w5 S6;refine zN 7 ?_;refine cab eQ S6 (eB ro ep fr tg rd A c l _ (St.rd 2 S6 E) Y) ?_;intro w7 M;refine zN 7 ?_;by_cases I:aj ⟨ro,ep,fr,tg,rd,l⟩=0
 ·have J:=(eP I).1;unfold aZ at J;have Z:=gJ (eP I).2;dsimp only at J Z;refine zN 9 ?_;by_cases h11:ro=3
  ·refine zN 10 ?_;by_cases h12:e<=ep
   ·refine zN 7 ?_;refine vv jo ?_;refine sa 0 M kQ ?_;intro Ea mX;refine zN 7 ?_;have jh:=mX.aO [2,1,0];rw[show fP ⟨ro,ep,fr,tg,rd,l⟩ e=(⟨0,0,0,0,0,[]⟩,15)from by unfold fP;(try dsimp only);exact kV];exact⟨none,0,mD,E,aB jh⟩
   refine zN 12 ?_;refine vv (v:=.agg #[D 0,D ep,D 0,D 0,D 0,.slice none 0 0]) gG ?_;refine sa 0 M kQ ?_;intro w16 zI;refine zN 5 ?_;have qO:=zI.aO [2,1,0];rw[show fP ⟨ro,ep,fr,tg,rd,l⟩ e=(⟨0,ep,0,0,0,[]⟩,0)from by unfold fP;(try dsimp only);exact kV];exact⟨none,0,mD,E,aB qO⟩
  refine zN 7 ?_;refine vv jo ?_;refine sa 0 M kQ ?_;intro Gn pK;refine zN 7 ?_;have uV:=pK.aO [2,1,0];rw[show fP ⟨ro,ep,fr,tg,rd,l⟩ e=(⟨0,0,0,0,0,[]⟩,7)from by unfold fP;(try dsimp only);exact kV];exact⟨none,0,mD,E,aB uV⟩
 refine zN 7 ?_;refine vv jo ?_;refine zQ ?_;refine sa 0 M kQ ?_;intro w22 uF;refine zN 7 ?_;have jP:=uF.aO [2,1,0];rw[show fP ⟨ro,ep,fr,tg,rd,l⟩ e=(⟨0,0,0,0,0,[]⟩,aj ⟨ro,ep,fr,tg,rd,l⟩)from by unfold fP;(try dsimp only);exact kV];exact⟨none,0,mD,E,aB jP⟩
end
section
open ChangeShapes WideShapes ChangeAt RowKit
section
variable {P:Program}{N:Nat}{l:Slots}{w w' w0:World}{B:Nat}{fs fs':List Fact}{ops:Array Oper}{o:Oper}{rest:List Oper}{Q:Exit->Act->World->Prop}{v:Value}
def sD:List Value->Nat->List Value->List Value
 |xs,_,[]=>xs
 |xs,k,v::vs=>sD (xs.set k v) (k+1) vs
def H6:∀(vs:List Value) (h:Array Value) (k:Nat),(cZ h k vs).toList=sD h.toList k vs
 |[],_,_=>rfl
 |v::vs,h,k=>by rw[cZ,sD,H6 vs,Array.toList_setIfInBounds]
def NV (m:Nat):∀(vs xs:List Value) (k:Nat),(sD xs k vs).take m=sD (xs.take m) k vs
 |[],_,_=>rfl
 |v::vs,xs,k=>by rw[sD,sD,NV m vs,take_set]
def H7:∀(vs xs:List Value) (k:Nat),(sD xs k vs).length=xs.length
 |[],_,_=>rfl
 |v::vs,xs,k=>by rw[sD,H7 vs,length_set]
def ako {e:TypeId}{s g n c k:Nat}{xs:List Value}(h:w.ownsRow B e s (.slice (some ⟨g,0,none⟩) n c) n xs)(cs:List Value):(w.setCells g k cs).ownsRow B e s (.slice (some ⟨g,0,none⟩) n c) n (sD xs k cs):=by
 obtain⟨O,h|⟨g',cap,I,hv,Z,hh,hn,hc,J,ht⟩⟩:=h
 ·exact absurd h.1 iQ
 injection hv with h1 h2 h3
 injection h1 with h1
 injection h1 with h1 h4 h5
 subst h1;subst h3;have hb:gq w g I e:=⟨hh⟩;have M:=jI cs k hb;refine⟨by rw[H7];exact O,.inr ⟨g,c,cZ I k cs,E,Z,M.blk,hn,hc,by rw[nM];exact J,?_⟩⟩;rw[H6,NV,ht]
def St.aqs {e:TypeId}{s g n c k:Nat}{xs:List Value}(i:Nat)(S:St B w0 w fs)(hi:fs[i]? =some (.own e s (.slice (some ⟨g,0,none⟩) n c) n xs))(cs:List Value):St B w0 (w.setCells g k cs) (fs.set i (.own e s (.slice (some ⟨g,0,none⟩) n c) n (sD xs k cs))):=
 St.adO i S hi (jJ g cs k w) (ako (S.own i hi) cs)
def St.afZ {e:TypeId}{s g n c k m:Nat}{xs:List Value}(i:Nat)(S:St B w0 w fs)(hi:fs[i]? =some (.own e s (.slice (some ⟨g,0,none⟩) n c) n xs))(hk:k+m<=n*s):w.there g k m:=λj hj=>by
 obtain⟨hl,h|⟨g',cap,I,hv,hg,Z,hn,hc,J,ht⟩⟩:=S.own i hi
 ·exact absurd h.1 iQ
 injection hv with h1 h2 h3
 injection h1 with h1
 injection h1 with h1 h4 h5
 subst h1;subst h3;have hle:n*s<=c*s:=mul_le_mul_right s hn;have M:k+j<I.size:=by rw[J];omega
 have O:gq w g I e:=⟨Z⟩;exact⟨by rw[O.cell (k:=k+j) (Array.getElem?_eq_getElem M)];rfl,O.free _⟩
def l7 {ty e:TypeId}{x y:Operand}{s g n c k m:Nat}{cs:Array Value}{xs xs':List Value}(i:Nat)(S:St B w0 w fs)(hw:Wanted N ops l o true)(J:o.dst=none)(M:o.op=.store ty x y)(O:ev l x=some (.pointer (some ⟨g,k,none⟩)))(Z:ev l y=some v)
  (hi:fs[i]? =some (.own e s (.slice (some ⟨g,0,none⟩) n c) n xs)) (hv:v.cells=cs) (hz:(P.info? ty).map (·.size)=some m) (hm:cs.size=m) (h1:∀u∈cs.toList,u.oneCell'=true) (hk:k+m<=n*s) (I:sD xs k cs.toList=xs')
  (h:∀w',St B w0 w' (fs.set i (.own e s (.slice (some ⟨g,0,none⟩) n c) n xs'))->wL P N ops Q rest l w'):wL P N ops Q (o::rest) l w:=by
 subst I;exact Nr hw J (Pv M O Z (PE hv hz hm h1 (S.afZ i hi hk))) (h _ (S.aqs i hi cs.toList))
def IZ {ty t:TypeId}{x y:Operand}{b k:Nat}{u:Value}{row row':Array Value}(i:Nat)(S:St B w0 w fs)(hw:Wanted N ops l o true)(J:o.dst=none)(M:o.op=.store ty x y)(O:ev l x=some (.pointer (some ⟨b,k,none⟩)))(Z:ev l y=some v)
  (hi:fs[i]? =some (.blk b row t)) (hv:v.cells= #[u]) (hz:(P.info? ty).map (·.size)=some 1) (h1:u.oneCell'=true) (hk:k<row.size) (I:row.setIfInBounds k u=row')
  (h:∀w',St B w0 w' (fs.set i (.blk b row' t))->wL P N ops Q rest l w'):wL P N ops Q (o::rest) l w:=by
 refine za i S hw J M O Z hi hv hz E (by simpa using h1) Y (row':=row') ?_ E h;subst I;rfl
end
section
variable {P:Program}{N:Nat}{l l':Slots}{w:World}{Q:Exit->Act->World->Prop}
def Ka (P:Program)(c:Code)(Q:Exit->Act->World->Prop)(a:Act)(w:World):Prop:= ∀(b:Frame) (k:List Item) (cs:List Frame),∃e a' w',Q e a' w'/\Arrives P (lone (b.at a (.code c:: .inLoop c::k)) cs w) b k cs e a' w'
def wI (P:Program)(N:Nat)(c:Code)(Q:Exit->Act->World->Prop)(l:Slots)(w:World):Prop:= ∀a,Fr N l a->Ka P c Q a w
def NW {c:Code}(h:wI P N c Q l w):wC P N (.loop c) Q l w:=by
 intro a F b k cs;obtain⟨e,J,w',M,I⟩:=h a F b k cs;exact⟨e,J,w',M,.of_steps (.one step_loop) I⟩
def mY {c:Code}(h:wC P N c (Exit.then (Ka P c Q) Q) l w):wI P N c Q l w:=by
 intro a F b k cs;obtain⟨e,O,Z,M,I⟩:=h a F b (.inLoop c::k) cs
 cases e with
 |normal=>
  obtain⟨e₂,a₂,w₂,hq₂,J⟩:=M b k cs;exact⟨e₂,a₂,w₂,hq₂,.of_steps (Steps.trans I (.one step_inLoop)) J⟩
 |exit id=>exact⟨_,O,Z,M,.pass (x:=.inLoop c) E (λ_ _=>.inl iQ) I⟩
 |goto l=>exact⟨_,O,Z,M,.pass (x:=.inLoop c) E (λ_ _=>.inl iQ) I⟩
 |ret=>exact⟨_,O,Z,M,.pass (x:=.inLoop c) E (λ_ _=>.inl iQ) I⟩
 |panic ch=>exact⟨_,O,Z,M,.pass (x:=.inLoop c) E (λ_ _=>.inl iQ) I⟩
 |outgrown=>exact⟨_,O,Z,M,.pass (x:=.inLoop c) E (λ_ _=>.inl iQ) I⟩
def qm {c:Code}(h:wI P N c Q l w):wQ N (Exit.then (Ka P c Q) Q) .normal l w:=h
end
end
section
open ChangeShapes WideShapes RowKit
def M7 (A:Option Addr) (n c:Nat) (l:List Value) (w:World) (h:Rd w w.heap.size 6 A n l) (I: ∀ u∈l,u.oneCell'=true) (Z:n*64<=reachBytes):
    Calls prog 53 #[.slice A n c] w (jw w 42 6 n l):=by
 unfold reachBytes at Z;have S:=(St.start w).bX h;refine gK 8 func53 ?_;refine cw [0] ?_;refine zN 9 ?_
 cases A with
 |none=>
  obtain⟨rfl,rfl⟩:=IL h;refine vv (v:=.bool true) (bC E E E (vI underlying43)) ?_;refine zN 11 ?_;exact jw.of (Below.refl _ _) (jf _ _ _ _)
 |some a=>
  refine vv (v:=.bool false) (bC E E E (vI underlying43)) ?_;refine zN 7 ?_;refine qV (V:=λb=>.slice (aD b 0) 0 0) (row:= #[]) (t:=42) (n:=0) (s:=6) (xs:=[]) S (wn E) E E (aP (vs:=[]) E trivial kQ) iQ (zero_le _) E ?_;intro b1 w2 M;refine zQ ?_;refine dU (news:=l) (xs':=l) 0 M (wn E) E E E E E E (St.rd 1 M E) underlying43 apb E dQ I lQ Y E ?_;intro A4 c5 w6 hc8 zl S7;refine zN 5 ?_;have J:=S7.aO [1];have O:=J.own 0 E;simp only[Nat.zero_add]at O⊢;exact jw.of J.low O
def St.jR {B:Nat}{w0 w:World}{fs:List Fact}{b n s:Nat}{row:Array Value}{t:TypeId}{xs:List Value}(i:Nat)(S:St B w0 w fs)(hi:fs[i]? =some (.blk b row t))(I:row.toList=xs)(J:xs.length=n*s):St B w0 w (fs.set i (.cK s (some ⟨b,0,none⟩) n xs)):=
 St.turn i S hi S.low (Nat.le_refl _) (λ_ _ _=>E) ⟨St.mq i S hi I J,λa h=>by cases h;exact⟨St.ge i S hi,St.lt i S hi⟩⟩ (λk M=>.inl M)
def dH (g:Nat)(p:Nat×Int):List Value:=[.pointer (some ⟨g,p.1,none⟩),.int .i64 p.2]
def bV (kd ek:Int):ByteArray:=
 if kd=1 then⟨#[109,97,107,101]⟩else if kd=10 then⟨#[109,111,118,101]⟩else if kd=3 then⟨#[115,116,101,112]⟩else if kd=9 then⟨#[115,116,97,114,116]⟩else if kd=8 then⟨#[99,114,97,115,104]⟩
 else if kd=4 then⟨#[99,97,114,114,121]⟩else if kd=5 then⟨#[108,111,115,101]⟩else if kd=6 then⟨#[100,111,117,98,108,101]⟩else if kd=7 then⟨#[97,108,108]⟩
 else if kd=2 then(if ek=1 then⟨#[112,117,98,108,105,115,104]⟩else if ek=2 then⟨#[114,101,99,101,105,118,101]⟩else if ek=3 then⟨#[97,99,107]⟩else⟨#[]⟩)else⟨#[]⟩
def af0 (w:World)(g:Nat)(u:ByteArray)(r:Option (List (Nat×Int)))(e:Ending)(w':World):Prop:=match r with
 |none=>e=.returned (.tuple #[.string u,.slice none 0 0,.bool false])/\Below w.heap.size w w'
 |some l=> ∃A,e=.returned (.tuple #[.string u,.slice A l.length l.length,.bool true])/\St w.heap.size w w' [.cK 2 A l.length (l.flatMap (dH g))]
def Ac.amk (x:Ac){i:Nat}(h:i<11):x.cells.toArray[i]? =some (.int .i64 (x.get i)):=by rw[getElem?_toArray];exact x.cell h
end
end Go.Proofs.YtefabpdniidmbaaGreatDoor
