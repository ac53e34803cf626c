import Derived.Shelf.SlicesG.Cmp
import Derived.Shelf.SlGeneric
import Derived.Ground.SlsfProg
import Derived.Ground.SlgcProg
import Derived.Test.YtefabpdniidmbaaGreatDoorG50f7f
import Derived.Test.YtefabpdniidmbaaGreatDoorGc44f3
import Derived.Test.YtefabpdniidmbaaGreatDoorGd4de3
set_option linter.all false
set_option maxRecDepth 100000
set_option maxHeartbeats 8000000
namespace Go.Proofs.YtefabpdniidmbaaGreatDoor
open List Nat Go.Proofs.Tryz ChangeShapes WideShapes RowKit
structure iT where
 no:Int
 body:Int
 deriving DecidableEq
structure Ls where
 iD:Int
 PX:Int
 UD:iT
 deriving DecidableEq
structure mM where
 a:ny
 b:ny
 c:ny
 d:ny
 deriving DecidableEq
structure Qd where
 ep:Int
 nx:Int
 gv:Int
 ready:List iT
 cZ:List Ls
 ws:mM
 deriving DecidableEq
def iT.cells(m:iT):List Value:=[D m.no,D m.body]
def Ls.cells(x:Ls):List Value:=[D x.iD,D x.PX,D x.UD.no,D x.UD.body]
def mM.cells(x:mM):List Value:=x.a.cells++(x.b.cells++(x.c.cells++x.d.cells))
def mM.at(x:mM)(p:Nat):ny:=if p=0 then x.a else if p=1 then x.b else if p=2 then x.c else x.d
def mM.put(x:mM)(p:Nat)(y:ny):mM:=if p=0 then{x with a:=y}else if p=1 then{x with b:=y}else if p=2 then{x with c:=y}else{x with d:=y}
def mM.len(x:mM):x.cells.length=36:=rfl
def ny.len(x:ny):x.cells.length=9:=rfl
def dY(e n g:Int)(r l:Value)(W:mM):Array Value:=(D e::D n::D g::r::l::W.cells).toArray
def lg:mM:=⟨Dw,Dw,Dw,Dw⟩
section
variable {e n g:Int}{r l:Value}{W:mM}{ep nx gv p:Int}{rs:List iT}{ls:List Ls}{bd id he hn:Int}{k:Nat}
def zR:(dY e n g r l W).size=41:=rfl
def AL:(dY e n g r l W)[0]? =some (D e):=rfl
def Dz:(dY e n g r l W)[1]? =some (D n):=rfl
def DC:(dY e n g r l W)[2]? =some (D g):=rfl
def sG:(dY e n g r l W)[3]? =some r:=rfl
def vZ:(dY e n g r l W)[4]? =some l:=rfl
def ane:∀(j:Nat) (u:Value),W.cells[j]? =some u->(dY e n g r l W)[5+j]? =some u:=oG (m:=36) E
def anf:∀(j:Nat) (u:Value),(W.at 0).cells[j]? =some u->(dY e n g r l W)[5+j]? =some u:=oG (m:=9) E
def ang:∀(j:Nat) (u:Value),(W.at 1).cells[j]? =some u->(dY e n g r l W)[14+j]? =some u:=oG (m:=9) E
def anh:∀(j:Nat) (u:Value),(W.at 2).cells[j]? =some u->(dY e n g r l W)[23+j]? =some u:=oG (m:=9) E
def ani:∀(j:Nat) (u:Value),(W.at 3).cells[j]? =some u->(dY e n g r l W)[32+j]? =some u:=oG (m:=9) E
def anj{z:Int}:dU (dY e n g r l W) 0 [D z]=dY z n g r l W:=rfl
def ank{z:Int}:dU (dY e n g r l W) 1 [D z]=dY e z g r l W:=rfl
def ab6{z:Int}:dU (dY e n g r l W) 2 [D z]=dY e n z r l W:=rfl
def KX{z:Value}:dU (dY e n g r l W) 3 [z]=dY e n g z l W:=rfl
def KY{z:Value}:dU (dY e n g r l W) 4 [z]=dY e n g r z W:=rfl
def anl{x:ny}:dU (dY e n g r l W) 5 x.cells=dY e n g r l (W.put 0 x):=by
 apply Av.1;rw[jw _ _ _ (by rw[zR,ny.len];omega)];rfl
def anm{x:ny}:dU (dY e n g r l W) 14 x.cells=dY e n g r l (W.put 1 x):=by
 apply Av.1;rw[jw _ _ _ (by rw[zR,ny.len];omega)];rfl
def ano{x:ny}:dU (dY e n g r l W) 23 x.cells=dY e n g r l (W.put 2 x):=by
 apply Av.1;rw[jw _ _ _ (by rw[zR,ny.len];omega)];rfl
def anp{x:ny}:dU (dY e n g r l W) 32 x.cells=dY e n g r l (W.put 3 x):=by
 apply Av.1;rw[jw _ _ _ (by rw[zR,ny.len];omega)];rfl
def KZ(x:ny):∀u∈x.cells,u.oneCell'=true:=dx E
def aiT(x:mM):∀u∈x.cells,u.oneCell'=true:=dx E
def ML(I:r.oneCell'=true)(J:l.oneCell'=true):∀u∈(dY e n g r l W).toList,u.oneCell'=true:=by
 intro u h;simp only[dY,mem_cons]at h
 rcases h with rfl|rfl|rfl|rfl|rfl|h
 ·rfl
 ·rfl
 ·rfl
 ·exact I
 ·exact J
 exact aiT W u h
def Zn(w:World)(k:Int)(e:Ending)(w':World):Prop:=e=.returned (D k)/\Below w.heap.size w w'
def Iy(w:World)(b:Bool)(e:Ending)(w':World):Prop:=e=.returned (.bool b)/\Below w.heap.size w w'
def uO(nx:Int)(m:iT):Bool:=decide (0<=m.no/\m.no<nx/\0<=m.body/\m.body<=1000000)
def zo{nx:Int}{m:iT}(h:uO nx m=true):0<=m.no/\m.no<nx/\0<=m.body/\m.body<=1000000:=of_decide_eq_true h
def lZ(nx:Int):Int->List iT->Bool
 |_,[]=>true
 |p,m::r=>(uO nx m&&decide (p<m.no))&&lZ nx m.no r
def OC(ep nx gv p:Int)(x:Ls):Bool:=uO nx x.UD&&decide (x.iD=ep/\p<x.PX/\x.PX<gv)
def nU(ep nx gv:Int):Int->List Ls->Bool
 |_,[]=>true
 |p,x::r=>OC ep nx gv p x&&nU ep nx gv x.PX r
def qH(rs:List iT)(ls:List Ls):List Int:=rs.map (·.no)++ls.map (·.UD.no)
def Vj(ep nx gv:Int)(rs:List iT)(ls:List Ls):Prop:=0<=ep/\ep<=1048576/\0<=nx/\nx<=1073741824/\0<=gv/\gv<=1073741824/\rs.length+ls.length<=500
def Cm(W:mM):Prop:= ∀j,j<4->eU (W.at j)=0
open Classical in
noncomputable def iL(ep nx gv:Int)(rs:List iT)(ls:List Ls)(W:mM):Int:=
 if ¬Vj ep nx gv rs ls then 6 else if ¬Cm W then 6 else if lZ nx (-1) rs=true/\nU ep nx gv (-1) ls=true/\(qH rs ls).Nodup then 0 else 6
def EI(h:¬(0<=ep/\ep<=1048576/\0<=nx/\nx<=1073741824/\0<=gv/\gv<=1073741824/\rs.length+ls.length<=500)):iL ep nx gv rs ls W=6:=au h
def Cn(h:¬(Cm W/\lZ nx (-1) rs=true/\nU ep nx gv (-1) ls=true/\(qH rs ls).Nodup)):iL ep nx gv rs ls W=6:=by
 unfold iL
 split
 ·rfl
 split
 ·rfl
 rename_i h1 I
 rw[ah (λJ=>h ⟨fE.1 I,J⟩)]
def at1{j:Nat}(I:j<4)(h:eU (W.at j)≠0):iL ep nx gv rs ls W=6:=Cn λh1=>h (h1.1 j I)
def azP(I:Vj ep nx gv rs ls)(h1:Cm W)(J:lZ nx (-1) rs=true)(M:nU ep nx gv (-1) ls=true)(O:(qH rs ls).Nodup):iL ep nx gv rs ls W=0:=by
 unfold iL;rw[ah (λh=>h I),ah (λh=>h h1),au ⟨J,M,O⟩]
def MN{k:Nat}{m:iT}(h:rs[k]? =some m):lZ nx p (rs.drop k)=((uO nx m&&decide (p<m.no))&&lZ nx m.no (rs.drop (k+1))):=by
 obtain⟨I,J⟩:=dw.1 h;rw[yc I,J];rfl
def Gl{k:Nat}{x:Ls}(h:ls[k]? =some x):nU ep nx gv p (ls.drop k)=(OC ep nx gv p x&&nU ep nx gv x.PX (ls.drop (k+1))):=by
 obtain⟨I,J⟩:=dw.1 h;rw[yc I,J];rfl
def MO{α β:Type}{f:α->β}{l:List α}{k:Nat}{x:α}(h:l[k]? =some x):(l.take k).map f++[f x]=(l.take (k+1)).map f:=by
 rw[qY,h];simp
def anq(x:ny):eU x=0\/eU x=6:=by unfold eU;split<;>simp
def XF(W:mM)(w:World):(Instr.index 181 (.agg W.cells.toArray) (D 0)).run prog w=.ok (.agg (W.at 0).cells.toArray) w:=kQ
def XG(W:mM)(w:World):(Instr.index 181 (.agg W.cells.toArray) (D 1)).run prog w=.ok (.agg (W.at 1).cells.toArray) w:=kQ
def XH(W:mM)(w:World):(Instr.index 181 (.agg W.cells.toArray) (D 2)).run prog w=.ok (.agg (W.at 2).cells.toArray) w:=kQ
def XI(W:mM)(w:World):(Instr.index 181 (.agg W.cells.toArray) (D 3)).run prog w=.ok (.agg (W.at 3).cells.toArray) w:=kQ
def aaD(W:mM)(k:Nat)(I:k<4)(w:World):(Instr.index 181 (.agg W.cells.toArray) (D k)).run prog w=.ok (.agg (W.at k).cells.toArray) w:=by
 have h:k=0\/k=1\/k=2\/k=3:=Y
 rcases h with rfl|rfl|rfl|rfl
 ·exact XF W w
 ·exact XG W w
 ·exact XH W w
 exact XI W w
def anr{e n g:Int}{r l:Value}{W:mM}{k:Nat}(I:k<4):∀(j:Nat) (u:Value),(W.at k).cells[j]? =some u->(dY e n g r l W)[5+k*9+j]? =some u:=by
 have h:k=0\/k=1\/k=2\/k=3:=Y
 rcases h with rfl|rfl|rfl|rfl
 ·exact anf
 ·exact ang
 ·exact anh
 exact ani
def jO{α:Type}{enc:α->List Value}{l l':List α}{x:α}{cs:List Value}(h:l++[x]=l')(he:enc x=cs):l.flatMap enc++cs=l'.flatMap enc:=by
 subst h;subst he;simp
structure kE where
 code:Int
 iD:Int
 PX:Int
 body:Int
 deriving DecidableEq
def iX:kE:=⟨0,0,0,0⟩
def rA(k:Int):kE:=⟨k,0,0,0⟩
def kE.cells(a:kE):List Value:=[D a.code,D a.iD,D a.PX,D a.body]
def kE.val(a:kE):Value:=.agg #[D a.code,D a.iD,D a.PX,D a.body]
def Ec(Q:Qd)(k:Nat)(id bd:Int):Qd×kE×Bool:=
 if (kD (Q.ws.at k) id).2.2≠0 then(Q,rA (kD (Q.ws.at k) id).2.2,false)
 else if (kD (Q.ws.at k) id).2.1=false then(Q,iX,false)
 else if Q.ready.length+Q.cZ.length=500\/Q.nx=1073741824 then(Q,rA 14,false)
 else(⟨Q.ep,Q.nx+1,Q.gv,Q.ready++[⟨Q.nx,bd⟩],Q.cZ,Q.ws.put k (kD (Q.ws.at k) id).1⟩,iX,true)
def Jv(Q:Qd):Qd×kE×Bool:=match Q.ready with
 |[]=>(Q,rA 10,false)
 |m::rest=>if Q.gv=1073741824 then(Q,rA 14,false)else(⟨Q.ep,Q.nx,Q.gv+1,rest,Q.cZ++[⟨Q.ep,Q.gv,m⟩],Q.ws⟩,⟨0,Q.ep,Q.gv,m.body⟩,true)
def GU(Q:Qd)(he hn:Int):Qd×kE×Bool:=
 if he≠Q.ep then(Q,rA 11,false)
 else if (Q.cZ.filter λx=>decide (x.PX≠hn)).length=Q.cZ.length then(Q,rA 7,false)
 else(⟨Q.ep,Q.nx,Q.gv,Q.ready,Q.cZ.filter λx=>decide (x.PX≠hn),Q.ws⟩,iX,true)
def l5(m:iT):List iT->List iT
 |[]=>[m]
 |x::l=>if m.no<x.no then m::x::l else x::l5 m l
def GV(Q:Qd):Qd×kE×Bool:=
 if Q.ep=1048576 then(Q,rA 14,false)
 else(⟨Q.ep+1,Q.nx,0,Q.cZ.foldl (λl x=>l5 x.UD l) Q.ready,[],Q.ws⟩,iX,true)
def ant(h:¬(kD (W.at k) id).2.2=0):Ec ⟨ep,nx,gv,rs,ls,W⟩ k id bd=(⟨ep,nx,gv,rs,ls,W⟩,rA (kD (W.at k) id).2.2,false):=au h
def anu(h:(kD (W.at k) id).2.2=0)(h1:(kD (W.at k) id).2.1=false):Ec ⟨ep,nx,gv,rs,ls,W⟩ k id bd=(⟨ep,nx,gv,rs,ls,W⟩,iX,false):=by
 unfold Ec;rw[ah (λI=>I h),au h1]
def VR(h:(kD (W.at k) id).2.2=0)(h1:(kD (W.at k) id).2.1=true)(I:rs.length+ls.length=500\/nx=1073741824):Ec ⟨ep,nx,gv,rs,ls,W⟩ k id bd=(⟨ep,nx,gv,rs,ls,W⟩,rA 14,false):=by
 unfold Ec;rw[ah (λI=>I h),ah (λJ=>by rw[h1]at J;cases J),au I]
def at5(h:(kD (W.at k) id).2.2=0)(h1:(kD (W.at k) id).2.1=true)(I:¬(rs.length+ls.length=500\/nx=1073741824)):Ec ⟨ep,nx,gv,rs,ls,W⟩ k id bd=(⟨ep,nx+1,gv,rs++[⟨nx,bd⟩],ls,W.put k (kD (W.at k) id).1⟩,iX,true):=by
 unfold Ec;rw[ah (λI=>I h),ah (λJ=>by rw[h1]at J;cases J),ah I]
def aiU(h:rs.length=0):Jv ⟨ep,nx,gv,rs,ls,W⟩=(⟨ep,nx,gv,rs,ls,W⟩,rA 10,false):=by
 cases rs with
 |nil=>rfl
 |cons m r=>simp at h
def aiV(h:¬rs.length=0)(h1:gv=1073741824):Jv ⟨ep,nx,gv,rs,ls,W⟩=(⟨ep,nx,gv,rs,ls,W⟩,rA 14,false):=by
 cases rs with
 |nil=>simp at h
 |cons m r=>exact au h1
def at6{m:iT}(h:rs[0]? =some m)(h1:¬gv=1073741824):Jv ⟨ep,nx,gv,rs,ls,W⟩=(⟨ep,nx,gv+1,rs.drop 1,ls++[⟨ep,gv,m⟩],W⟩,⟨0,ep,gv,m.body⟩,true):=by
 cases rs with
 |nil=>simp at h
 |cons m r=>
  simp at h;subst h;exact ah h1
def ad2(h:¬he=ep):GU ⟨ep,nx,gv,rs,ls,W⟩ he hn=(⟨ep,nx,gv,rs,ls,W⟩,rA 11,false):=au h
def aiW(h:he=ep)(h1:(ls.filter λx=>decide (x.PX≠hn)).length=ls.length):GU ⟨ep,nx,gv,rs,ls,W⟩ he hn=(⟨ep,nx,gv,rs,ls,W⟩,rA 7,false):=by
 unfold GU;rw[ah (λI=>I h),au h1]
def at7(h:he=ep)(h1:¬(ls.filter λx=>decide (x.PX≠hn)).length=ls.length):GU ⟨ep,nx,gv,rs,ls,W⟩ he hn=(⟨ep,nx,gv,rs,ls.filter λx=>decide (x.PX≠hn),W⟩,iX,true):=by
 unfold GU;rw[ah (λI=>I h),ah h1]
def aiX(h:ep=1048576):GV ⟨ep,nx,gv,rs,ls,W⟩=(⟨ep,nx,gv,rs,ls,W⟩,rA 14,false):=au h
def aua(h:¬ep=1048576):GV ⟨ep,nx,gv,rs,ls,W⟩=(⟨ep+1,nx,0,ls.foldl (λl x=>l5 x.UD l) rs,[],W⟩,iX,true):=ah h
end
def anv{e n g:Int}{r l:Value}{W:mM}{x:ny}{k:Nat}(h:k<4):dU (dY e n g r l W) (5+k*9) x.cells=dY e n g r l (W.put k x):=by
 match k,h with
 | 0,_=>exact anl
 | 1,_=>exact anm
 | 2,_=>exact ano
 | 3,_=>exact anp
def GX(B:Nat)(w0:World)(g:Nat)(fs:List OJ)(r:Qd×kE×Bool)(e:Ending)(w':World):Prop:=
 e=.returned (.tuple #[r.2.1.val,.bool r.2.2])/\ ∃A1 c1 A2 c2,St B w0 w' (.Oy g (dY r.1.ep r.1.nx r.1.gv (.slice A1 r.1.ready.length c1) (.slice A2 r.1.cZ.length c2) r.1.ws) 219:: .dR 2 A1 r.1.ready.length (r.1.ready.flatMap iT.cells):: .dR 4 A2 r.1.cZ.length (r.1.cZ.flatMap Ls.cells)::fs)
section
section
open Go.Shelf Go.RowKit Go.Lib Go.Sort
def XJ:Go.Shelf.Ren:=⟨λ| 6=>131| 15=>136| 14=>135| 28=>146| 29=>147| 20=>138| 21=>139| 22=>140| 23=>141| 24=>142| 25=>143| 26=>144| 27=>145| 46=>149| 47=>150| 48=>151| 49=>152| 50=>153| 57=>154|n=>n,λ| 22=>176| 24=>222| 25=>239| 3=>3| 39=>166| 0=>0| 53=>253| 55=>255| 4=>4| 46=>247| 45=>246| 50=>58| 5=>5| 9=>9| 66=>256| 70=>112| 76=>261| 77=>81|n=>n,λ|n=>n⟩
def ab7:Go.Proofs.SlLaysF0.n6 prog XJ:={
 mixed:=kQ
 f6:=⟨Tryz.f131.name,by decide,Tryz.func131.trans (bP some kQ)⟩
 f14:=⟨Tryz.f135.name,by decide,Tryz.func135.trans (bP some kQ)⟩
 f15:=Tryz.func136.trans (bP some kQ)
 f20:=⟨Tryz.f138.name,by decide,Tryz.func138.trans (bP some kQ)⟩
 f21:=⟨Tryz.f139.name,by decide,Tryz.func139.trans (bP some kQ)⟩
 f22:=⟨Tryz.f140.name,by decide,Tryz.func140.trans (bP some kQ)⟩
 f23:=⟨Tryz.f141.name,by decide,Tryz.func141.trans (bP some kQ)⟩
 f24:=⟨Tryz.f142.name,by decide,Tryz.func142.trans (bP some kQ)⟩
 f25:=⟨Tryz.f143.name,by decide,Tryz.func143.trans (bP some kQ)⟩
 f26:=⟨Tryz.f144.name,by decide,Tryz.func144.trans (bP some kQ)⟩
 f27:=⟨Tryz.f145.name,by decide,Tryz.func145.trans (bP some kQ)⟩
 f28:=Tryz.func146.trans (bP some kQ)
 f29:=Tryz.func147.trans (bP some kQ)
 f46:=⟨Tryz.f149.name,by decide,Tryz.func149.trans (bP some kQ)⟩
 f47:=Tryz.func150.trans (bP some kQ)
 f48:=Tryz.func151.trans (bP some kQ)
 f49:=⟨Tryz.f152.name,by decide,Tryz.func152.trans (bP some kQ)⟩
 f50:=⟨Tryz.f153.name,by decide,Tryz.func153.trans (bP some kQ)⟩
 f57:=⟨Tryz.f154.name,by decide,Tryz.func154.trans (bP some kQ)⟩
 t0:=Tryz.underlying0
 a0:=Tryz.isAgg0
 z0:=Tryz.sizeOf0
 v0:=Tryz.zeroValue0
 t3:=underlying3
 a3:=Tryz.isAgg3
 z3:=Tryz.sizeOf3
 v3:=zeroValue3
 t4:=underlying4
 a4:=Tryz.isAgg4
 z4:=Tryz.sizeOf4
 v4:=Tryz.zeroValue4
 t5:=underlying5
 a5:=Tryz.isAgg5
 z5:=Tryz.sizeOf5
 v5:=Tryz.zeroValue5
 t9:=Tryz.underlying9
 a9:=Tryz.isAgg9
 z9:=Tryz.sizeOf9
 v9:=Tryz.zeroValue9
 t22:=underlying176
 a22:=Tryz.isAgg176
 z22:=Tryz.sizeOf176
 v22:=Tryz.zeroValue176
 t25:=Tryz.underlying239
 a25:=Tryz.isAgg239
 z25:=Tryz.sizeOf239
 v25:=Tryz.zeroValue239
 t39:=Tryz.underlying166
 a39:=Tryz.isAgg166
 z39:=Tryz.sizeOf166
 v39:=Tryz.zeroValue166
 t45:=Tryz.underlying246
 a45:=Tryz.isAgg246
 z45:=Tryz.sizeOf246
 v45:=Tryz.zeroValue246
 t46:=Tryz.underlying247
 a46:=Tryz.isAgg247
 z46:=Tryz.sizeOf247
 v46:=Tryz.zeroValue247
 t50:=Tryz.underlying58
 a50:=Tryz.isAgg58
 z50:=Tryz.sizeOf58
 v50:=Tryz.zeroValue58
 t53:=Tryz.underlying253
 a53:=Tryz.isAgg253
 z53:=Tryz.sizeOf253
 v53:=Tryz.zeroValue253
 t55:=Tryz.underlying255
 a55:=Tryz.isAgg255
 z55:=Tryz.sizeOf255
 v55:=Tryz.zeroValue255
 t66:=Tryz.underlying256
 a66:=Tryz.isAgg256
 z66:=Tryz.sizeOf256
 v66:=Tryz.zeroValue256
 t70:=underlying112
 a70:=Tryz.isAgg112
 z70:=Tryz.sizeOf112
 v70:=Tryz.zeroValue112
 t76:=Tryz.underlying261
 a76:=Tryz.isAgg261
 z76:=Tryz.sizeOf261
 v76:=Tryz.zeroValue261
 t77:=Tryz.underlying81
 a77:=Tryz.isAgg81
 z77:=Tryz.sizeOf81
 v77:=Tryz.zeroValue81}
def aaE:Go.Shelf.Ren:=⟨λ| 5=>137| 7=>148|n=>n,λ| 22=>3| 3=>3| 4=>4|n=>n,λ|n=>n⟩
def aub:Go.Proofs.SlLaysC2.n5 prog aaE:={
 mixed:=kQ
 f5:=⟨Tryz.f137.name,by decide,Tryz.func137.trans (bP some kQ)⟩
 f7:=⟨Tryz.f148.name,by decide,Tryz.func148.trans (bP some kQ)⟩
 t3:=underlying3
 a3:=Tryz.isAgg3
 z3:=Tryz.sizeOf3
 v3:=zeroValue3
 t4:=underlying4
 a4:=Tryz.isAgg4
 z4:=Tryz.sizeOf4
 v4:=Tryz.zeroValue4
 t22:=underlying3
 a22:=Tryz.isAgg3
 z22:=Tryz.sizeOf3
 v22:=zeroValue3}
end
open Go.Shelf
open ChangeAt
open Go.Sort (HoldsK PermIn SortedIn SWO grow)
instance:Inhabited iT:=⟨⟨0,0⟩⟩
def O7(x y:iT):Int:=Lib.compareInt x.no y.no
def akE(x y:iT):ltOf O7 x y=decide (x.no<y.no):=by
 unfold ltOf O7 Lib.compareInt;by_cases h1:x.no<y.no
 ·simp[h1]
 by_cases h:y.no<x.no<;>simp[h1,h]
def azQ:SWO (ltOf O7) where
 irrefl x:=by rw[akE];simp
 trans x y z h1 h2:=by rw[akE]at*;simp at*;omega
 ntrans x y z h1 h2:=by rw[akE]at*;simp at*;omega
def aaF(x y:iT)(W:World):Calls prog 132 #[.agg #[.int .i64 x.no,.int .i64 x.body],.agg #[.int .i64 y.no,.int .i64 y.body]] W λe w'=>e=.returned (.int .i64 (O7 x y))/\ ∃q os',w'=grow (W.drewN q) os':=by
 have hcon:=λW'=>AnyG.cmp_Compare_int aub x.no y.no W';change ∀W',Calls prog 137 _ _ _ at hcon;unfold O7;generalize Lib.compareInt x.no y.no=r at hcon⊢
 go_enter Tryz.func132,Tryz.ntmps132
 go_wp2_with (go_at_call 137;refine(hcon _).mono ?_;rintro e w' ⟨rfl,rfl⟩)
 go_ret
 exact⟨E,0,_,by rw[Go.Sort.alloc_eq_grow,Go.Sort.alloc_eq_grow,Go.Sort.grow_grow];rfl⟩
def auc:∀w,(isAgg 222).run prog w=.ok true w:=by
 intro w;simp[isAgg,run_underlying underlying222,Sem.run_bind,Result.andThen]
def anw:∀w,(Go.sizeOf 222).run prog w=.ok 2 w:=by
 intro w;obtain⟨z,I,hs⟩:∃z,prog.info? 222=some z/\z.size=2:=by
  have h:=apj
  cases hi:prog.info? 222 with
  |none=>simp[hi]at h
  |some z=>exact⟨z,E,by simpa[hi]using h⟩
 simp[sizeOf,typeInfo,I,hs,Sem.run_bind,Result.andThen]
def uP(l:List iT):Prop:=l.Pairwise λa b=>a.no<=b.no
def XK(A:Option Addr)(c:Nat)(rs:List iT)(w:World){B:Nat}(J:w.ownsRow B 222 2 (.slice A rs.length c) rs.length (rs.flatMap iT.cells))(hl:rs.length<=1000000):
 Calls prog 131 #[.slice A rs.length c,.func (.func 132) #[] #[]] w λe w'=>e=.returned (.tuple #[])/\ ∃d:List iT,d.Perm rs/\uP d/\
   w'.ownsRow B 222 2 (.slice A rs.length c) rs.length (d.flatMap iT.cells)/\w.grownBy w' (Value.slice A rs.length c).ownBlock:=by
 rcases Au rs.length with M|M
 ·have e0:rs=[]:=pW.1 M;subst e0;refine(AnyF.slices_SortFunc_none ab7 A c (.func (.func 132) #[] #[]) w).mono ?_;rintro e w' ⟨rfl,rfl⟩;exact⟨E,[],Perm.refl _,Pairwise.nil,J,⟨E,E,E,aB,λ_ _ _=>E⟩⟩
 obtain⟨g,rfl⟩:=GQ J M;have hg:g<w.heap.size:=GD J g E;have hH:=adQ (enc:=iT.cells) (k:=2) (λ_=>E) J E;have I:=AnyQ.slices_SortFunc ab7 2 auc anw iT.cells (λ_=>E) (λx v hv=>by simp[iT.cells]at hv;rcases hv with rfl|rfl<;>rfl) O7 azQ 132 #[] g 0 c rs.toArray w eQ (λ_ _ _ _ x y=>aaF x y _) hH hg jQ;change Calls prog 131 _ _ _ at I;rw[size_toArray]at I;refine I.mono ?_;rintro e w' ⟨rfl,d',m,os,hp,hs,rfl⟩;obtain⟨p1,_,p3⟩:=hp
 replace p1:d'.size=rs.length:=p1
 obtain⟨q1,q2⟩:=aay (enc:=iT.cells) (k:=2) (d':=d') (m:=m) (os:=os) (λ_=>E) J p1;refine⟨E,d'.toList,?_,?_,q1,q2⟩
 ·have e1:d'.extract 0 rs.length=d':=by rw[<-p1];exact Array.extract_size
  have e2:rs.toArray.extract 0 rs.length=rs.toArray:=by simp
  rw[e1,e2]at p3;simpa using p3
 unfold uP;rw[Gg];intro i j hi Z O;rw[abQ]at hi Z;have h:=hs i j (aG _) O Y;rw[akE,SQ d' j Z,SQ d' i hi]at h;simp only[Array.getElem_toList];simpa using h
def DX(m:iT):∀l:List iT,(l5 m l).Perm (m::l)
 |[]=>Perm.refl _
 |x::l=>by
  unfold l5
  split
  ·exact Perm.refl _
  exact((DX m l).cons x).trans (Perm.swap m x l)
def NI{m:iT}:∀ {l:List iT},uP l->uP (l5 m l)
 |[],_=>by simp[l5,uP]
 |x::l,h=>by
  obtain⟨h1,M⟩:=yj.1 h;unfold l5
  split
  ·rename_i I
   refine yj.2 ⟨λy J=>?_,h⟩
   rcases iq.1 J with e|e
   ·rw[e];omega
   have:=h1 y e;omega
  rename_i I
  refine yj.2 ⟨λy J=>?_,NI M⟩
  rcases iq.1 ((DX m l).mem_iff.1 J)with e|e
  ·rw[e];omega
  exact h1 y e
def Jw:∀(ls:List Ls) (rs:List iT),(ls.foldl (λl x=>l5 x.UD l) rs).Perm (rs++ls.map (·.UD))
 |[],rs=>by simp
 |x::ls,rs=>by
  rw[qX,KN];refine(Jw ls (l5 x.UD rs)).trans ?_;refine((DX x.UD rs).append_right _).trans ?_;rw[vW];exact perm_middle.symm
def VT:∀(ls:List Ls) {rs:List iT},uP rs->uP (ls.foldl (λl x=>l5 x.UD l) rs)
 |[],_,h=>h
 |_::ls,_,h=>VT ls (NI h)
def aiY{rs d:List iT}{ls:List Ls}(Z:d.Perm (rs++ls.map (·.UD)))(ha:uP d)(hA:uP rs)(hN:(qH rs ls).Nodup):d=ls.foldl (λl x=>l5 x.UD l) rs:=by
 have hF:=Jw ls rs;have hnd:((rs++ls.map (·.UD)).map (·.no)).Nodup:=by
  unfold qH at hN;rw[iP,map_map];exact hN
 refine Perm.eq_of_pairwise (le:=λa b:iT=>a.no<=b.no) (λa b I J h1 h2=>?_) ha (VT ls hA) (Z.trans hF.symm);have m1:=Z.mem_iff.1 I;have m2:=hF.mem_iff.1 J;have e:a.no=b.no:=Y;have:=pairwise_map.1 hnd;obtain⟨i,hi,M⟩:=K3 m1;obtain⟨j,hj,O⟩:=K3 m2;rw[Gg]at this
 rcases anx i j with h|h|h
 ·exact av (by rw[M,O];exact e) (this i j hi hj h)
 ·subst h;rw[<-M,<-O]
 exact av (by rw[M,O];exact e.symm) (this j i hj hi h)
end
def gu:Qd:=⟨0,0,0,[],[],lg⟩
def Qd.row(Q:Qd)(A1:Option Addr)(c1:Nat)(A2:Option Addr)(c2:Nat):Array Value:=dY Q.ep Q.nx Q.gv (.slice A1 Q.ready.length c1) (.slice A2 Q.cZ.length c2) Q.ws
noncomputable def Qd.Uy(Q:Qd):Int:=iL Q.ep Q.nx Q.gv Q.ready Q.cZ Q.ws
def Qh(Q:Qd)(e:Ev):Qd×kE×Bool:=
 if e.kind=1 then Ec Q e.OU.toNat e.id e.body else if e.kind=2 then Jv Q else if e.kind=3 then GU Q e.OZ e.PX else GV Q
noncomputable def jU(Q:Qd)(e:Ev):Qd×kE×Bool×Int:=
 if Q.Uy≠0 then(gu,iX,false,Q.Uy)else if bK e≠0 then(gu,iX,false,bK e)else((Qh Q e).1,(Qh Q e).2.1,(Qh Q e).2.2,0)
def anz(w:World)(r:Qd×kE×Bool×Int)(e:Ending)(w':World):Prop:= ∃A1 c1 A2 c2,e=.returned (.tuple #[.agg (dY r.1.ep r.1.nx r.1.gv (.slice A1 r.1.ready.length c1) (.slice A2 r.1.cZ.length c2) r.1.ws),r.2.1.val,.bool r.2.2.1,.int .i64 r.2.2.2])/\
 St w.heap.size w w' [.dR 2 A1 r.1.ready.length (r.1.ready.flatMap iT.cells),.dR 4 A2 r.1.cZ.length (r.1.cZ.flatMap Ls.cells)]
section
variable {ep nx gv p:Int}{rs:List iT}{ls:List Ls}{W:mM}{Q:Qd}{e:Ev}{an:List kE}{l:List Ev}{k:Nat}
def Tc(h:iL ep nx gv rs ls W=0):Vj ep nx gv rs ls/\Cm W/\lZ nx (-1) rs=true/\nU ep nx gv (-1) ls=true/\(qH rs ls).Nodup:=by
 unfold iL at h
 split at h
 ·cases h
 split at h
 ·cases h
 split at h
 ·rename_i h1 I J
  exact⟨fE.1 h1,fE.1 I,J⟩
 cases h
def ahp:∀ {rs:List iT} {p:Int},lZ nx p rs=true->(∀x∈rs,p<x.no)/\rs.Pairwise λa b=>a.no<b.no
 |[],_,_=>⟨λx I=>by simp at I,Pairwise.nil⟩
 |m::r,p,h=>by
  simp only[lZ,Bool.and_eq_true,decide_eq_true_eq]at h;obtain⟨⟨_,h1⟩,M⟩:=h;obtain⟨J,O⟩:=ahp M;refine⟨λx I=>?_,yj.2 ⟨J,O⟩⟩
  rcases iq.1 I with rfl|I
  ·exact h1
  exact K4 h1 (J x I)
def anA(h:lZ nx (-1) rs=true):uP rs:=(ahp h).2.imp λh=>Td h
def agI:∀ {ls:List Ls} {p:Int},nU ep nx gv p ls=true->(∀x∈ls,x.iD=ep/\p<x.PX)/\ls.Pairwise λa b=>a.PX<b.PX
 |[],_,_=>⟨λx I=>by simp at I,Pairwise.nil⟩
 |m::r,p,h=>by
  simp only[nU,OC,Bool.and_eq_true,decide_eq_true_eq]at h;obtain⟨⟨_,M,h1,_⟩,O⟩:=h;obtain⟨J,Z⟩:=agI O;refine⟨λx I=>?_,yj.2 ⟨λx I=>(J x I).2,Z⟩⟩
  rcases iq.1 I with rfl|I
  ·exact⟨M,h1⟩
  exact⟨(J x I).1,K4 h1 (J x I).2⟩
def aud(h:nU ep nx gv (-1) ls=true):∀x∈ls,x.iD=ep:=λx I=>((agI h).1 x I).1
def aue(h:nU ep nx gv (-1) ls=true):∀(i j:Nat) (a b:Ls),ls[i]? =some a->ls[j]? =some b->a.PX=b.PX->i=j:=by
 have I:=(agI h).2;rw[Gg]at I;intro i j a b M O e;obtain⟨hi,rfl⟩:=dw.1 M;obtain⟨J,rfl⟩:=dw.1 O
 rcases anx i j with h1|h1|h1
 ·have:=I i j hi J h1;omega
 ·exact h1
 have:=I j i J hi h1;omega
def anB{e:Ev}(h:bK e=0):1<=e.kind/\e.kind<=4:=by
 unfold bK at h
 split at h
 ·cases h
 rename_i h1
 exact fE.1 h1
def ab8{e:Ev}(h:bK e=0):0<=e.OU/\e.OU<=3:=by
 unfold bK at h
 split at h
 ·cases h
 split at h
 ·cases h
 rename_i h1 O
 split at h
 ·cases h
 split at h
 ·cases h
 rename_i h3 Z
 by_cases J:e.kind=1
 ·have M:=fE.1 (λI=>O ⟨J,I⟩);simp only[Bool.and_eq_true,mK,decide_eq_true_eq]at M;omega
 have M:=fE.1 (λI=>Z ⟨J,I⟩);omega
def O8(h:Q.Uy≠0):jU Q e=(gu,iX,false,Q.Uy):=au h
def Uh(h:Q.Uy=0)(h1:bK e≠0):jU Q e=(gu,iX,false,bK e):=by
 unfold jU;rw[ah (λI=>I h),au h1]
def BO(h:Q.Uy=0)(h1:bK e=0):jU Q e=((Qh Q e).1,(Qh Q e).2.1,(Qh Q e).2.2,0):=by
 unfold jU;rw[ah (λI=>I h),ah (λI=>I h1)]
noncomputable def jo:Qd->List kE->List Ev->Option (Qd×List kE)
 |Q,an,[]=>some (Q,an)
 |Q,an,e::r=>if (jU Q e).2.2.2=0/\(jU Q e).2.2.1=true then jo (jU Q e).1 (an++[(jU Q e).2.1]) r else none
noncomputable def aM(l:List Ev):Qd×List kE×Int:=
 if 2000<l.length then(gu,[],1)else match jo gu [] l with
  |some r=>(r.1,r.2,0)
  |none=>(gu,[],3)
def XL(h:l[k]? =some e)(I:(jU Q e).2.2.2=0)(h1:(jU Q e).2.2.1=true):jo Q an (l.drop k)=jo (jU Q e).1 (an++[(jU Q e).2.1]) (l.drop (k+1)):=by
 obtain⟨J,M⟩:=dw.1 h;rw[yc J,M,jo,au ⟨I,h1⟩]
def XM(h:l[k]? =some e)(I:¬((jU Q e).2.2.2=0/\(jU Q e).2.2.1=true)):jo Q an (l.drop k)=none:=by
 obtain⟨J,M⟩:=dw.1 h;rw[yc J,M,jo,ah I]
def aaG(h:l.length<=k):jo Q an (l.drop k)=some (Q,an):=by
 rw[sH h];rfl
def QE(h:2000<l.length):aM l=(gu,[],1):=au h
def GY{r:Qd×List kE}(h:¬ 2000<l.length)(h1:jo gu [] l=some r):aM l=(r.1,r.2,0):=by
 unfold aM;rw[ah h,h1]
def MP(h:¬ 2000<l.length)(h1:jo gu [] l=none):aM l=(gu,[],3):=by
 unfold aM;rw[ah h,h1]
def jd(h:(aM l).2.2=0):l.length<=2000:=by
 unfold aM at h
 split at h
 ·cases h
 omega
def aiZ:(Qh Q e).1.ready.length+(Qh Q e).1.cZ.length<=Q.ready.length+Q.cZ.length+1:=by
 unfold Qh
 split
 ·unfold Ec;split; · dsimp only;omega
  split; · dsimp only;omega
  split; · dsimp only;omega
  simp only[length_append,length_cons,length_nil];omega
 split
 ·obtain⟨ep,nx,gv,rs,ls,W⟩:=Q
  cases rs with
  |nil=>simp[Jv]
  |cons m r=>simp only[Jv];split<;>simp<;>omega
 split
 ·unfold GU;split; · dsimp only;omega
  split; · dsimp only;omega
  have:=length_filter_le (λx:Ls=>decide (x.PX≠e.PX)) Q.cZ;simp only;omega
 unfold GV;split; · dsimp only;omega
 have h:=(Jw Q.cZ Q.ready).length_eq;rw[aZ,iE]at h;simp only[length_nil];omega
def ahq(h:(jU Q e).2.2.2=0):(jU Q e).1.ready.length+(jU Q e).1.cZ.length<=501:=by
 by_cases I:Q.Uy=0
 ·by_cases h1:bK e=0
  ·rw[BO I h1];have J:=(Tc I).1;unfold Vj at J;have:=aiZ (Q:=Q) (e:=e);simp only;omega
  rw[Uh I h1];simp[gu]
 rw[O8 I];simp[gu]
def FK:∀ {l:List Ev} {Q:Qd} {an:List kE} {r:Qd×List kE},Q.ready.length+Q.cZ.length<=501->jo Q an l=some r->r.1.ready.length+r.1.cZ.length<=501/\r.2.length=an.length+l.length
 |[],Q,an,r,hQ,h=>by
  simp only[jo,Option.some.injEq]at h;subst h;exact⟨hQ,by simp⟩
 |e::l,Q,an,r,hQ,h=>by
  rw[jo]at h
  split at h
  ·rename_i I
   obtain⟨h1,J⟩:=FK (ahq I.1) h;exact⟨h1,by rw[J];simp;omega⟩
  cases h
def aaH:(aM l).1.ready.length+(aM l).1.cZ.length<=501:=by
 unfold aM
 split
 ·simp[gu]
 split
 ·rename_i r h
  exact(FK (by simp[gu]) h).1
 simp[gu]
end
structure bC where
 F9:Int
 ep:Int
 fr:Int
 tg:Int
 rd:Int
 Jp:List Ev
 deriving DecidableEq
def bX:bC:=⟨0,0,0,0,0,[]⟩
def bg:Ev:=⟨4,0,0,0,0,0⟩
def bL(b:bC):Prop:=(b.F9=0/\0<=b.ep/\b.ep<=1048576/\b.fr=0/\b.tg=0/\b.rd=0/\b.Jp.length=0)\/(1<=b.ep/\b.ep<=1048576/\
 ((b.F9=1/\b.fr=0/\b.tg=0/\b.rd=0)\/(b.F9=2/\b.fr=0/\0<=b.tg/\b.tg<5/\0<=b.rd/\b.rd<=4)\/(b.F9=3/\b.fr=0/\0<=b.tg/\b.tg<5/\b.rd=0)\/(b.F9=4/\0<=b.fr/\b.fr<5/\b.tg=0/\b.rd=0)))
instance (b:bC):Decidable (bL b):=by unfold bL;exact inferInstance
open Classical in
noncomputable def ay(b:bC):Int:=if bL b/\(aM b.Jp).2.2=0 then 0 else 6
section
variable {b:bC}{P:Program}{w:World}{t e:TypeId}{xo yo:Operand}
def om(h:bL b)(h1:(aM b.Jp).2.2=0):ay b=0:=au ⟨h,h1⟩
def MQ(h:¬bL b):ay b=6:=ah λh1=>h h1.1
def Te(h:¬(aM b.Jp).2.2=0):ay b=6:=ah λh1=>h h1.2
def gG(h:ay b=0):bL b/\(aM b.Jp).2.2=0:=by
 unfold ay at h
 split at h
 ·assumption
 cases h
noncomputable def iK(b:bC)(e:Ev):bC×kE×Bool×Int:=
 if ay b≠0 then(bX,iX,false,ay b)else if bK e≠0 then(bX,iX,false,bK e)else if e.kind=4 then(bX,iX,false,3)
 else if b.F9=3 then(b,rA 12,false,0)else if b.F9≠1/\b.F9≠2 then(b,rA 7,false,0)
 else if (jU (aM b.Jp).1 e).2.2.1=false then(b,(jU (aM b.Jp).1 e).2.1,false,0)
 else if 1999<=b.Jp.length then(b,rA 14,false,0)else({b with Jp:=b.Jp++[e]},(jU (aM b.Jp).1 e).2.1,true,0)
noncomputable def jX(b:bC)(ep:Int):bC×Int:=
 if ay b≠0 then(bX,ay b)else if ¬(1<=ep/\ep<=1048576)then(bX,2)else if b.F9≠0 then(bX,8)else if ep<=b.ep then(bX,15)else(⟨1,ep,0,0,0,[]⟩,0)
noncomputable def vQ(b:bC)(tg:Int):bC×Int:=
 if ay b≠0 then(bX,ay b)else if ¬(0<=tg/\tg<=4)then(bX,2)else if b.F9=2\/b.F9=3 then(bX,12)else if b.F9≠1 then(bX,7)
 else if b.ep=1048576 then(bX,14)else(⟨2,b.ep,0,tg,0,b.Jp⟩,0)
noncomputable def bY(b:bC)(hv:Int):bC×Int:=
 if ay b≠0 then(bX,ay b)else if b.F9≠2/\b.F9≠3 then(bX,7)else if ¬(0<=hv/\hv<=b.Jp.length)then(bX,2)
 else if b.F9=3 then(b,0)else if hv=b.Jp.length\/b.rd=4 then({b with F9:=3,rd:=0},0)else({b with rd:=b.rd+1},0)
noncomputable def jq(b:bC)(hv:Int):List Ev×Bool×Int:=
 if ay b≠0 then([],false,ay b)else if b.F9≠2/\b.F9≠3 then([],false,7)else if ¬(0<=hv/\hv<=b.Jp.length)then([],false,2)
 else((b.Jp.drop hv.toNat).take 3,decide (b.F9=3/\b.Jp.length<=hv.toNat+3),0)
noncomputable def dV(b:bC)(ep fr:Int):bC×Int:=
 if ay b≠0 then(bX,ay b)else if ¬(1<=ep/\ep<=1048576/\0<=fr/\fr<=4)then(bX,2)else if b.F9≠0/\b.F9≠4 then(bX,8)
 else if b.F9=4/\b.ep=ep/\b.fr=fr then(b,0)else if ep<=b.ep then(bX,15)else(⟨4,ep,fr,0,0,[]⟩,0)
noncomputable def dP(b:bC)(ep at_:Int)(l:List Ev)(last:Bool):bC×Int:=
 if ay b≠0 then(bX,ay b)else if b.F9≠4 then(bX,7)else if b.ep≠ep then(bX,15)else if ¬(0<=at_/\at_<=b.Jp.length)then(bX,2)
 else if ¬(b.Jp.drop at_.toNat).take l.length=l.take (b.Jp.length-at_.toNat)then(bX,3)
 else if last=true/\at_.toNat+l.length<b.Jp.length then(bX,3)
 else if ay (if last=true then⟨1,ep,0,0,0,b.Jp++l.drop (b.Jp.length-at_.toNat)++[bg]⟩else{b with Jp:=b.Jp++l.drop (b.Jp.length-at_.toNat)})≠0 then(bX,3)
 else(if last=true then⟨1,ep,0,0,0,b.Jp++l.drop (b.Jp.length-at_.toNat)++[bg]⟩else{b with Jp:=b.Jp++l.drop (b.Jp.length-at_.toNat)},0)
noncomputable def iw(b:bC)(ep:Int):bC×Int:=
 if ay b≠0 then(bX,ay b)else if b.F9≠3 then(bX,7)else if ep<=b.ep then(bX,15)else(⟨0,b.ep,0,0,0,[]⟩,0)
noncomputable def gW(b:bC):bC×Int:=
 if ay b≠0 then(bX,ay b)else if b.F9≠1/\b.F9≠2 then(b,0)
 else if ay ⟨1,b.ep,0,0,0,b.Jp++[bg]⟩≠0 then(bX,14)else(⟨1,b.ep,0,0,0,b.Jp++[bg]⟩,0)
def ni{α:Type}{a b:α}(h:a=b:=by(repeat' (first|rfl|omega|split))<;>(simp only[Prod.mk.injEq,bC.mk.injEq,and_true,true_and,and_self];omega)):a=b:=h
instance:Ci iT where
 size:=2
 TQ m:=[m.no,m.body]
 of xs:=⟨xs.getD 0 0,xs.getD 1 0⟩
 pos:=by decide
 len _:=rfl
 inv xs h:=by
  match xs,h with
  |[a,b],_=>rfl
instance:Ci Ls where
 size:=4
 TQ m:=[m.iD,m.PX,m.UD.no,m.UD.body]
 of xs:=⟨xs.getD 0 0,xs.getD 1 0,⟨xs.getD 2 0,xs.getD 3 0⟩⟩
 pos:=by decide
 len _:=rfl
 inv xs h:=by
  match xs,h with
  |[a,b,c,d],_=>rfl
def ai0(l:List iT):∀u∈l.flatMap iT.cells,u.oneCell'=true:=Iq l
def ab9(l:List Ls):∀u∈l.flatMap Ls.cells,u.oneCell'=true:=Iq l
def yu{A:Option Addr}{n c:Nat}(h:P.underlying t=some (.slice e)):(do eqGuard .eql t xo yo (.slice A n c) (.slice none 0 0);binOp .eql t (.slice A n c) (.slice none 0 0):Sem Value).run P w=.ok (.bool A.isNone) w:=by
 rw[Sem.run_bind,show(eqGuard .eql t xo yo (.slice A n c) (.slice none 0 0)).run P w=.ok () w from E];exact Lib.run_eql_slice_nil w t e A n c 0 0 h
end
def K5{w:World}{B s n:Nat}{xs:List Value}(h:Rd w B s none n xs):n=0/\xs=[]:=by
 have h1:n=0:=by
  rcases Au n with I|I
  ·exact I
  obtain⟨b,off,e,_⟩:=h.2 I
  cases e
 subst h1;exact⟨E,FZ (by have:=h.1;omega)⟩
def aht(A:Option Addr)(n c:Nat)(l:List Value)(w:World)(h:Rd w w.heap.size 2 A n l)(I:∀u∈l,u.oneCell'=true)(Z:n*16<=reachBytes):
 Calls prog 119 #[.slice A n c] w (kS w 222 2 n l):=by
 unfold reachBytes at Z;have S:=(St.start w).dJ h;refine jc 8 func119 ?_;refine cw [0] ?_;refine zN 9 ?_
 cases A with
 |none=>
  obtain⟨rfl,rfl⟩:=K5 h;refine vv (v:=.bool true) (cK E E E (yu underlying176)) ?_;refine zN 11 ?_;exact kS.of (Below.refl _ _) (kH _ _ _ _)
 |some a=>
  refine vv (v:=.bool false) (cK E E E (yu underlying176)) ?_;refine zN 7 ?_;refine uw (V:=λb=>.slice (aD b 0) 0 0) (row:= #[]) (t:=222) (n:=0) (s:=2) (xs:=[]) S (wn E) E E (bD (vs:=[]) E trivial kQ) iQ (aG _) E ?_;intro b1 w2 M;refine zQ ?_;refine eG (news:=l) (xs':=l) 0 M (wn E) E E E E E E (St.rd 1 M E) underlying176 YE E dQ I lQ Y E ?_;intro A4 c5 w6 hc8 BP S7;refine zN 5 ?_;have J:=S7.bq [1];have O:=J.own 0 E;simp only[Nat.zero_add]at O⊢;exact kS.of J.Qe O
def ahu(A:Option Addr)(n c:Nat)(l:List Value)(w:World)(h:Rd w w.heap.size 4 A n l)(I:∀u∈l,u.oneCell'=true)(Z:n*32<=reachBytes):
 Calls prog 120 #[.slice A n c] w (kS w 225 4 n l):=by
 unfold reachBytes at Z;have S:=(St.start w).dJ h;refine jc 8 func120 ?_;refine cw [0] ?_;refine zN 9 ?_
 cases A with
 |none=>
  obtain⟨rfl,rfl⟩:=K5 h;refine vv (v:=.bool true) (cK E E E (yu underlying177)) ?_;refine zN 11 ?_;exact kS.of (Below.refl _ _) (kH _ _ _ _)
 |some a=>
  refine vv (v:=.bool false) (cK E E E (yu underlying177)) ?_;refine zN 7 ?_;refine uw (V:=λb=>.slice (aD b 0) 0 0) (row:= #[]) (t:=225) (n:=0) (s:=4) (xs:=[]) S (wn E) E E (bD (vs:=[]) E trivial kQ) iQ (aG _) E ?_;intro b1 w2 M;refine zQ ?_;refine eG (news:=l) (xs':=l) 0 M (wn E) E E E E E E (St.rd 1 M E) underlying177 ahf E dQ I lQ Y E ?_;intro A4 c5 w6 hc8 BP S7;refine zN 5 ?_;have J:=S7.bq [1];have O:=J.own 0 E;simp only[Nat.zero_add]at O⊢;exact kS.of J.Qe O
def Fq(e nx g:Int)(r l:Value)(W:mM)(m:iT)(w:World):
 Calls prog 126 #[.agg (dY e nx g (r) (l) W),.agg #[D m.no,D m.body]] w (Iy w (uO nx m)):=by
 have S:=St.start w;refine jc 25 func126 ?_;refine cw [0,1] ?_;refine zN 2 ?_;refine jT S ?_;intro b1 O J;refine jT J ?_;intro b4 Z I;refine zN 7 ?_;by_cases h7:0<=m.no
 ·refine zN 5 ?_;refine vg (aA E E (aV (St.cl 1 I E Dz))) ?_;by_cases h8:m.no<nx
  ·refine zN 5 ?_;by_cases h9:0<=m.body
   ·refine zN 5 ?_;by_cases M:m.body<=1000000
    ·refine zN 7 ?_;refine⟨?_,I.Qe⟩;rw[show uO nx m=true from ko ⟨‹_›,‹_›,‹_›,‹_›⟩];rfl
    refine zN 7 ?_;refine⟨?_,I.Qe⟩;rw[show uO nx m=false from jf (λh=>av h.2.2.2 ‹_›)];rfl
   refine zN 12 ?_;refine⟨?_,I.Qe⟩;rw[show uO nx m=false from jf (λh=>av h.2.2.1 ‹_›)];rfl
  refine zN 17 ?_;refine⟨?_,I.Qe⟩;rw[show uO nx m=false from jf (λh=>av h.2.1 ‹_›)];rfl
 refine zN 23 ?_;refine⟨?_,I.Qe⟩;rw[show uO nx m=false from jf (λh=>av h.1 ‹_›)];rfl
def ahv(ep nx gv:Int)(A1 A2:Option Addr)(c1 c2:Nat)(rs:List iT)(ls:List Ls)(W:mM)(w:World)(h1:Rd w w.heap.size 2 A1 rs.length (rs.flatMap iT.cells))(h2:Rd w w.heap.size 4 A2 ls.length (ls.flatMap Ls.cells))(hb1:rs.length*16<=reachBytes)(hb2:ls.length*32<=reachBytes):
 Calls prog 118 #[.agg (dY ep nx gv (.slice A1 rs.length c1) (.slice A2 ls.length c2) W)] w (Zn w (iL ep nx gv rs ls W)):=by
 unfold reachBytes at hb1 hb2;have S:=((St.start w).dJ h2).dJ h1;refine jc 140 func118 ?_;refine cw [0] ?_;refine zN 2 ?_;refine jT S ?_;intro b1 w2 Z;refine zN 7 ?_;refine vv (aA E E (aV (St.cl 0 Z E AL))) ?_;by_cases h4:ep<0
 ·refine zN 47 ?_;exact⟨jr (EI Y).symm,Z.Qe⟩
 refine zN 3 ?_;refine vg (aA E E (aV (St.cl 0 Z E AL))) ?_;by_cases h5:1048576<ep
 ·refine zN 43 ?_;exact⟨jr (EI Y).symm,Z.Qe⟩
 refine zN 4 ?_;refine vg (aA E E (aV (St.cl 0 Z E Dz))) ?_;by_cases h6:nx<0
 ·refine zN 38 ?_;exact⟨jr (EI Y).symm,Z.Qe⟩
 refine zN 4 ?_;refine vg (aA E E (aV (St.cl 0 Z E Dz))) ?_;by_cases h7:1073741824<nx
 ·refine zN 33 ?_;exact⟨jr (EI Y).symm,Z.Qe⟩
 refine zN 4 ?_;refine vg (aA E E (aV (St.cl 0 Z E DC))) ?_;by_cases h8:gv<0
 ·refine zN 28 ?_;exact⟨jr (EI Y).symm,Z.Qe⟩
 refine zN 4 ?_;refine vg (aA E E (aV (St.cl 0 Z E DC))) ?_;by_cases h9:1073741824<gv
 ·refine zN 23 ?_;exact⟨jr (EI Y).symm,Z.Qe⟩
 refine zN 4 ?_;refine vg (aA E E (aV (St.cl 0 Z E sG))) ?_;refine zN 2 ?_;refine vg (aA E E (aV (St.cl 0 Z E vZ))) ?_;refine zQ ?_;refine vg (v:=D ((rs.length+ls.length:Nat):Int)) jW ?_;by_cases h10:500< ((rs.length+ls.length:Nat):Int)
 ·refine zN 13 ?_;exact⟨jr (EI Y).symm,Z.Qe⟩
 refine zN 11 ?_;refine vv (aA E E (fu (cs:=(W.cells)) (St.rg 0 Z E (ane)))) ?_;refine zN 4 ?_;refine iO (X:=Nat) (λI=>[(1,pV b1 0),(2,D 0),(51,.agg ((W.cells).toArray)),(52,D (I:Int))]) (λI wr=>(I<=4)/\(∀j,j<I->eU (W.at j)=0)/\St w.heap.size w wr [.Oy b1 (dY ep nx gv (.slice A1 rs.length c1) (.slice A2 ls.length c2) W) 183,.rd 2 A1 rs.length ((rs).flatMap iT.cells),.rd 4 A2 ls.length ((ls).flatMap Ls.cells)]) (λI=>4-I) (0) ?_ ?_ ?_
 ·exact⟨aG _,λj hj=>av hj (Tf _),Z⟩
 ·exact lU
 rintro k L6 ⟨aqG,OD,sI⟩
 try dsimp only at aqG OD sI
 refine cB (l':=[(1,pV b1 0),(2,D 0),(51,.agg ((W.cells).toArray)),(52,D (k:Int))]) lU (bH (aL ?_));by_cases h15:(k:Int)<4
 ·refine zN 11 ?_;refine vv (v:=.agg (((W.at k).cells).toArray)) (al6 E E E (aaD W k Y _)) ?_;refine iU sI aqF ?_;intro b16 Pp tq;refine stA 0 tq kQ ?_ (h1:=KZ _);intro J9 tN;refine zN 5 ?_;refine UR eQ tN (Im (W.at k) _) ?_;intro Iz l6;refine zN 6 ?_;by_cases Um:eU (W.at k)=0
  ·refine zN 8 ?_;refine vv (v:=D ((k+1:Nat):Int)) jW ?_;refine zN 2 ?_;have nH:=l6.bq [0];refine dL (k+1) ?_ lU (by first|omega|(dsimp only;omega));exact⟨Y,(λj hj=>(Gm.1 hj).elim (λh=>OD j h) (λh=>by rw[h];exact Um)),nH⟩
  refine zN 17 ?_;refine⟨jr ?_,l6.Qe⟩;rw[at1 (j:=k) Y Um];exact(anq _).resolve_left Um
 refine zN 12 ?_;refine aaz (k:=3) sI (wn E) E E E ?_;intro b26 QF vR;have aDz:Cm W:=λj hj=>OD j Y;refine zN 12 ?_;refine vv (aA E E (aV (St.cl 1 vR E sG))) ?_;refine zN 5 ?_;refine iO (X:=Nat×Int) (λI=>[(1,pV b1 0),(2,D 0),(6,.map (some b26)),(7,D I.2),(63,.slice A1 rs.length c1),(64,D (rs.length:Int)),(65,D (I.1:Int))]) (λI wr=>(I.1<=rs.length)/\(lZ nx (-1) rs=lZ nx I.2 (rs.drop I.1))/\St w.heap.size w wr [.loc b26 (Oz prog 3 ((rs.take I.1).map (·.no))),.Oy b1 (dY ep nx gv (.slice A1 rs.length c1) (.slice A2 ls.length c2) W) 183,.rd 2 A1 rs.length ((rs).flatMap iT.cells),.rd 4 A2 ls.length ((ls).flatMap Ls.cells)]) (λI=>rs.length-I.1) (0,-1) ?_ ?_ ?_
 ·exact⟨aG _,E,vR⟩
 ·exact Fj
 rintro⟨k,p⟩ YM ⟨K6,K7,tu⟩
 try dsimp only at K6 K7 tu
 refine cB (l':=[(1,pV b1 0),(2,D 0),(6,.map (some b26)),(7,D p),(63,.slice A1 rs.length c1),(64,D (rs.length:Int)),(65,D (k:Int))]) Fj (bH (aL ?_));by_cases h34:(k:Int)< (rs.length:Int)
 ·refine zN 11 ?_;obtain⟨b35,o36,rfl⟩:=Rd.addr (St.rd 2 tu E) Y;obtain⟨x37,hx38⟩:=NA k (St.rd 2 tu E) Y;refine vv (nC k) ?_;refine vv (aA E E (fu (cs:=iT.cells x37) (Rd.Bb (St.rd 2 tu E) (λ_ _ h=>dF (enc:=iT.cells) (sz:=2) (λ_=>E) hx38 h)))) ?_;refine iU tu aDy ?_;intro b39 w40 L9;refine sa 0 L9 kQ ?_;intro YN wO;refine zN 7 ?_;refine dZ eQ (Fq ep nx gv _ _ W x37 _) ?_;rintro _ Un ⟨rfl,aDA⟩;refine⟨_,E,?_⟩;have tC:=wO.on aDA
  cases Zo:(uO nx x37)
  ·refine zN 23 ?_;exact⟨jr (Cn λh=>by rw[K7,MN hx38,Zo]at h;exact av h.2.1 iQ).symm,tC.Qe⟩
  have aKF:=zo Zo;refine zN 5 ?_;by_cases h49:p<x37.no
  ·refine zN 18 ?_;refine vv (v:=.agg #[]) yz ?_;refine QB (z:=x37.no) 1 tC (wn E) E E E E E E underlying3 underlying230 Y (by simp[maxLen];omega) ?_;intro YO yK;rw[MO (f:=λm:iT=>m.no) hx38]at yK;refine zN 4 ?_;refine vv (v:=D ((k+1:Nat):Int)) jW ?_;refine zN 2 ?_;have CP:=yK.bq [0];refine dL (k+1,x37.no) ?_ Fj (by first|omega|(dsimp only;omega));exact⟨uQ,(by dsimp only;rw[K7,MN hx38,Zo,ko h49];rfl),CP⟩
  refine zN 18 ?_;exact⟨jr (Cn λh=>by rw[K7,MN hx38,jf h49]at h;exact av h.2.1 iQ).symm,tC.Qe⟩
 refine zN 19 ?_;refine vv (aA E E (aV (St.cl 1 tu E vZ))) ?_;refine zN 5 ?_;have aDB:lZ nx (-1) rs=true:=by rw[K7,F5 Y];rfl
 have yL:=tu;rw[kg (show rs.length<=k by omega)]at yL;rw[<-bI (rs.map (·.no))]at yL;refine iO (X:=Nat×Int) (λI=>[(1,pV b1 0),(2,D 0),(6,.map (some b26)),(7,D I.2),(87,.slice A2 ls.length c2),(88,D (ls.length:Int)),(89,D (I.1:Int))]) (λI wr=>(I.1<=ls.length)/\(nU ep nx gv (-1) ls=nU ep nx gv I.2 (ls.drop I.1))/\St w.heap.size w wr [.loc b26 (Oz prog 3 (rs.map (·.no)++(ls.take I.1).map (·.UD.no))),.Oy b1 (dY ep nx gv (.slice A1 rs.length c1) (.slice A2 ls.length c2) W) 183,.rd 2 A1 rs.length ((rs).flatMap iT.cells),.rd 4 A2 ls.length ((ls).flatMap Ls.cells)]) (λI=>ls.length-I.1) (0,-1) ?_ ?_ ?_
 ·exact⟨aG _,E,yL⟩
 ·exact Fj
 rintro⟨k,p⟩ w56 ⟨aDC,J,wY⟩
 try dsimp only at aDC J wY
 refine cB (l':=[(1,pV b1 0),(2,D 0),(6,.map (some b26)),(7,D p),(87,.slice A2 ls.length c2),(88,D (ls.length:Int)),(89,D (k:Int))]) Fj (bH (aL ?_));by_cases h60:(k:Int)< (ls.length:Int)
 ·refine zN 11 ?_;obtain⟨b61,o62,rfl⟩:=Rd.addr (St.rd 3 wY E) Y;obtain⟨O,M⟩:=NA k (St.rd 3 wY E) Y;refine vv (nC k) ?_;refine vv (aA E E (fu (cs:=Ls.cells O) (Rd.Bb (St.rd 3 wY E) (λ_ _ h=>dF (enc:=Ls.cells) (sz:=4) (λ_=>E) M h)))) ?_;refine iU wY avZ ?_;intro b65 YP wZ;refine sa 0 wZ kQ ?_;intro w68 CQ;refine zN 7 ?_;refine vv (aA E E (fu (cs:=[D O.UD.no,D O.UD.body]) (St.rg 0 CQ E (oG (x:=2) (m:=2) E)))) ?_;refine dZ eQ (Fq ep nx gv _ _ W O.UD _) ?_;rintro _ w70 ⟨rfl,aDD⟩;refine⟨_,E,?_⟩;have vS:=CQ.on aDD
  cases aqH:(uO nx O.UD)
  ·refine zN 40 ?_;exact⟨jr (Cn λh=>by rw[J,Gl M,OC,aqH]at h;exact av h.2.2.1 iQ).symm,vS.Qe⟩
  have aKG:=zo aqH;refine zN 6 ?_;refine vg (aA E E (aV (St.cl 2 vS E AL))) ?_;by_cases h75:O.iD=ep
  ·refine zN 7 ?_;by_cases h76:p<O.PX
   ·refine zN 7 ?_;refine vg (aA E E (aV (St.cl 2 vS E DC))) ?_;by_cases h77:O.PX<gv
    ·refine zN 20 ?_;refine vv (v:=.agg #[]) yz ?_;refine QB (z:=O.UD.no) 1 vS (wn E) E E E E E E underlying3 underlying230 Y (by simp[maxLen];omega) ?_;intro w78 Fu;rw[gP,MO (f:=λm:Ls=>m.UD.no) M]at Fu;refine zN 4 ?_;refine vv (v:=D ((k+1:Nat):Int)) jW ?_;refine zN 2 ?_;have yw:=Fu.bq [0];refine dL (k+1,O.PX) ?_ Fj (by first|omega|(dsimp only;omega));exact⟨uQ,(by dsimp only;rw[J,Gl M,OC,aqH,ko ⟨by omega,by omega,by omega⟩];rfl),yw⟩
    refine zN 18 ?_;exact⟨jr (Cn λh=>by rw[J,Gl M,OC,jf (λh1=>h77 (h1.2.2)),Bool.and_false]at h;exact av h.2.2.1 iQ).symm,vS.Qe⟩
   refine zN 26 ?_;exact⟨jr (Cn λh=>by rw[J,Gl M,OC,jf (λh1=>h76 (h1.2.1)),Bool.and_false]at h;exact av h.2.2.1 iQ).symm,vS.Qe⟩
  refine zN 33 ?_;exact⟨jr (Cn λh=>by rw[J,Gl M,OC,jf (λh1=>h75 (h1.1)),Bool.and_false]at h;exact av h.2.2.1 iQ).symm,vS.Qe⟩
 refine zN 14 ?_;have aDE:nU ep nx gv (-1) ls=true:=by rw[J,F5 Y];rfl
 have Fv:=wY;rw[kg (show ls.length<=k by omega)]at Fv;change St _ _ _ [.loc b26 (Oz prog 3 (qH rs ls)),.Oy b1 (dY ep nx gv (.slice A1 rs.length c1) (.slice A2 ls.length c2) W) 183,.rd 2 A1 rs.length ((rs).flatMap iT.cells),.rd 4 A2 ls.length ((ls).flatMap Ls.cells)]at Fv;obtain⟨m84,aDF,aDG,aqI⟩:=aiI 0 Fv E underlying230 3;have hnl:(qH rs ls).length=rs.length+ls.length:=by simp[qH]
 rw[hnl]at aDG aqI;refine vv (v:=D (m84:Int)) (uq (vs:=[.map (some b26)]) E tU1 aDF) ?_;refine zQ ?_;refine vv (aA E E (aV (St.cl 1 Fv E sG))) ?_;refine zN 2 ?_;refine vv (aA E E (aV (St.cl 1 Fv E vZ))) ?_;refine zQ ?_;refine vv (v:=D ((rs.length+ls.length:Nat):Int)) jW ?_;by_cases h88:(m84:Int)< ((rs.length+ls.length:Nat):Int)
 ·refine zN 12 ?_;exact⟨jr (Cn λh=>aqI.1 Y h.2.2.2).symm,Fv.Qe⟩
 refine zN 13 ?_;exact⟨jr (azP (by unfold Vj;omega) aDz aDB aDE (fE.1 λh=>h88 (by have:=aqI.2 h;omega))).symm,Fv.Qe⟩
def ade{B g k c1 c2:Nat}{w0 w:World}{fs:List OJ}{A1 A2:Option Addr}{rs:List iT}{ls:List Ls}{W:mM}{ep nx gv kd id bd he hn:Int}(S:St B w0 w (.Oy g (dY ep nx gv (.slice A1 rs.length c1) (.slice A2 ls.length c2) W) 219:: .own 222 2 (.slice A1 rs.length c1) rs.length ((rs).flatMap iT.cells):: .own 225 4 (.slice A2 ls.length c2) ls.length ((ls).flatMap Ls.cells)::fs))(hk:k<4)(hlen:rs.length+ls.length<=500)(hnx:0<=nx/\nx<=1073741824)(hgv:0<=gv/\gv<=1073741824)(iD:0<=ep/\ep<=1048576):
 Calls prog 121 #[pV g 0,.agg #[D kd,D (k:Int),D id,D bd,D he,D hn]] w (GX B w0 g fs (Ec ⟨ep,nx,gv,rs,ls,W⟩ k id bd)):=by
 refine jc 94 func121 ?_;refine cw [0,1] ?_;refine zN 2 ?_;refine jT S ?_;intro b1 w2 S3;refine iU S3 vY ?_;intro b4 w5 S6;refine zN 3 ?_;refine qb (X:=Nat) (λxv=>[(0,pV g 0),(3,pV b1 0),(4,pV b4 0),(5,.bool false),(6,pV xv 0),(7,.bool ((kD (W.at k) id).2.1)),(8,D ((kD (W.at k) id).2.2))]) (λxv wr=>St B w0 wr ((.Oy xv (((kD (W.at k) id).1.cells).toArray) 180)::(.Oy b4 #[D 0,D 0,D 0,D 0] 54)::(.Oy b1 #[D kd,D (k:Int),D id,D bd,D he,D hn] 49)::(.Oy g (dY ep nx gv (.slice A1 rs.length c1) (.slice A2 ls.length c2) W) 219)::(.own 222 2 (.slice A1 rs.length c1) rs.length ((rs).flatMap iT.cells))::(.own 225 4 (.slice A2 ls.length c2) ls.length ((ls).flatMap Ls.cells))::fs)) ?_ ?_
 ·have S7:=S6.drew;refine aU 19 S7 [] ?_;refine aW 6 ?_;refine ak (v:=pV g (5+k*9)) 6 E S7 (λ_ _=>(bF E E E (fP k underlying181 kQ E hk))) ?_;refine ak (v:=.agg (((W.at k).cells).toArray)) 7 E S7 (λ_ aqJ=>(aA E E (fu (cs:=(W.at k).cells) (St.rg 2 aqJ E (anr hk))))) ?_;refine aW 2 ?_;refine gL (n:=8) (r:=10) (s:=15) kQ ?_ ?_
  ·refine ku 10 E eQ (J3 (W.at k) id _) ?_;rintro _ Pq ⟨rfl,aqK⟩;refine⟨_,E,?_⟩;have xg:=S7.on aqK;refine aW 5 ?_;refine bJ 15 ?_;refine nT 15 E xg aqF ?_;intro b25 Pt vJ;refine dI ?_;refine bJ 16 ?_;refine YL 16 E 0 vJ kQ ?_ (h1:=KZ _);intro YQ vT;refine aW 4 ?_;refine eO b25 ?_ Fj;exact vT
  refine nT 15 E S7 aqF ?_;intro b32 w33 uy;refine dI ?_;refine bJ 10 ?_;refine ku 10 E eQ (J3 (W.at k) id _) ?_;rintro _ w35 ⟨rfl,aqL⟩;refine⟨_,E,?_⟩;have vU:=uy.on aqL;refine aW 5 ?_;refine bJ 16 ?_;refine YL 16 E 0 vU kQ ?_ (h1:=KZ _);intro YN wO;refine aW 4 ?_;refine eO b32 ?_ Fj;exact wO
 rintro b46 w47 M
 try dsimp only at M
 refine cB (l':=[(0,pV g 0),(3,pV b1 0),(4,pV b4 0),(5,.bool false),(6,pV b46 0),(7,.bool ((kD (W.at k) id).2.1)),(8,D ((kD (W.at k) id).2.2))]) Fj (bH (GI (bH (aL (vm ?_)))));by_cases h1:(kD (W.at k) id).2.2=0
 ·refine zN 8 ?_
  cases h2:(kD (W.at k) id).2.1
  ·refine zN 8 ?_;refine sa 1 M kQ ?_;intro w49 zS;refine zN 7 ?_;have yK:=zS.bq [2,1,0];have qO:=yK.bZ 1 E;have CP:=qO.bZ 2 E;rw[anu h1 h2];refine⟨E,A1,c1,A2,c2,?_⟩;dsimp only;exact CP
  refine zN 6 ?_;refine je M mixed kQ ?_;refine zN 4 ?_;refine uv (v:=.slice A1 rs.length c1) (λ_ aDH=>(aA E E (aV (St.cl 3 aDH E sG)))) ?_;refine zN 5 ?_;refine uv (v:=.slice A2 ls.length c2) (λ_ ad6=>(aA E E (aV (St.cl 3 ad6 E vZ)))) ?_;refine zQ ?_;refine uv (v:=D ((rs.length+ls.length:Nat):Int)) (λ_ _=>jW) ?_;by_cases h3:rs.length+ls.length=500
  ·refine zN 10 ?_;refine jB λw71 IB=>?_;refine zN 4 ?_;refine vv (v:=.agg #[D 14,D 0,D 0,D 0]) iJ ?_;refine sa 1 IB kQ ?_;intro w73 QG;refine zN 7 ?_;have Jy:=QG.bq [2,1,0];have Pv:=Jy.bZ 1 E;have IC:=Pv.bZ 2 E;rw[VR h1 h2 (.inl h3)];refine⟨E,A1,c1,A2,c2,?_⟩;dsimp only;exact IC
  refine zN 6 ?_;refine ug (v:=D nx) (λ_ aDI=>(aA E E (aV (St.cl 3 aDI E Dz)))) ?_;by_cases h4:nx=1073741824
  ·refine zN 3 ?_;refine jB λw88 Pw=>?_;refine zN 4 ?_;refine vv (v:=.agg #[D 14,D 0,D 0,D 0]) iJ ?_;refine sa 1 Pw kQ ?_;intro w90 Uo;refine zN 7 ?_;have BQ:=Uo.bq [2,1,0];have Fw:=BQ.bZ 1 E;have Ka:=Fw.bZ 2 E;rw[VR h1 h2 (.inr h4)];refine⟨E,A1,c1,A2,c2,?_⟩;dsimp only;exact Ka
  refine zN 3 ?_;refine jB λw98 S99=>?_;refine zN 6 ?_;have J:=S99.drew;refine aU 9 J [3] ?_;refine aW 7 ?_;refine ak (v:=pV g (5+k*9)) 7 E (St.del 3 J) (λ_ _=>(bF E E E (fP k underlying181 kQ E hk))) ?_;refine bJ 8 ?_;refine wV (i:=8) E E (cs:=((kD (W.at k) id).1.cells).toArray) (row':=dY ep nx gv (.slice A1 rs.length c1) (.slice A2 ls.length c2) (W.put k (kD (W.at k) id).1)) (fs':=(.Oy b46 (((kD (W.at k) id).1.cells).toArray) 180)::(.Oy b4 #[D 0,D 0,D 0,D 0] 54)::(.Oy b1 #[D kd,D (k:Int),D id,D bd,D he,D hn] 49)::(.Oy g (dY ep nx gv (.slice A1 rs.length c1) (.slice A2 ls.length c2) (W.put k (kD (W.at k) id).1)) 219)::(.own 222 2 (.slice A1 rs.length c1) rs.length ((rs).flatMap iT.cells))::(.own 225 4 (.slice A2 ls.length c2) ls.length ((ls).flatMap Ls.cells))::fs) 3 J (wn E) E E E E E E aph E (KZ _) (by rw[zR];omega) (anv hk) E ?_;intro ad8 uz;refine aW 2 ?_;refine zN 2 ?_;have I:=uz.drew;refine gV 20 16 I [4] ?_;iterate 5 refine ji ?_
  refine gk (v:=.slice A1 rs.length c1) 5 E (St.del 4 I) (λ_ azR=>(aA E E (aV (St.cl 3 azR E sG)))) ?_;iterate 4 refine ji ?_
  refine gk (v:=D nx) 10 E (St.del 4 I) (λ_ azS=>(aA E E (aV (St.cl 3 azS E Dz)))) ?_;iterate 2 refine ji ?_
  refine gk (v:=.agg #[D nx,D bd]) 13 E (St.del 4 I) (λ_ _=>iJ) ?_;refine gI (m:=5) (r:=14) kQ ?_;refine o8 (i:=14) E E (V:=λb=>.slice (aD b 0) 1 1) (row:= #[D nx,D bd]) (t:=222) I (wn E) E E (bD (vs:=[(0,.agg #[D nx,D bd])]) E zL kQ) ?_;intro aNX ad9 O;refine ji ?_;refine gI (m:=4) (r:=15) kQ ?_;refine nG (i:=15) E E (news:=[D nx,D bd]) (xs':=(rs++[(⟨nx,bd⟩:iT)]).flatMap iT.cells) 5 O (wn E) E E E E E E (St.nP (xs:=[D nx,D bd]) 0 O E E E) underlying176 YE E dQ (dx E) lQ Y (jO (enc:=iT.cells) E E) ?_;intro aDJ c130 akF aKH aKI Bo;refine ji ?_;refine gF kQ E E E ?_;refine zN 3 ?_;refine kZ 4 Bo kQ ?_ (hs:=by exact KX);intro av6 Z;refine zQ ?_;refine kC ?_;refine zN 7 ?_;refine vv (aA E E (aV (St.cl 4 Z E Dz))) ?_;refine vv (v:=D (nx+1)) jW ?_;refine zN 3 ?_;refine kZ 4 Z kQ ?_ (hs:=by exact ank);intro av7 GZ;refine zN 5 ?_;refine sa 2 GZ kQ ?_;intro aDK Jz;refine zN 5 ?_;have aDL:=Jz.bq [3,2,1,0];have K8:=aDL.bZ 1 E;have Zp:=K8.bZ 2 E;rw[at5 h1 h2 (λh=>h.elim h3 h4)];have hln:=(by simp:(rs++[(⟨nx,bd⟩:iT)]).length=rs.length+1);refine⟨E,aDJ,c130,A2,c2,?_⟩;dsimp only;rw[hln];exact Zp
 refine zN 8 ?_;refine vv (v:=.agg #[D ((kD (W.at k) id).2.2),D 0,D 0,D 0]) iJ ?_;refine sa 1 M kQ ?_;intro akG OE;refine zN 7 ?_;have Vk:=OE.bq [2,1,0];have Vl:=Vk.bZ 1 E;have QH:=Vl.bZ 2 E;rw[ant h1];refine⟨E,A1,c1,A2,c2,?_⟩;dsimp only;exact QH
def fH{w:World}{base:Nat}{e:TypeId}{size:Nat}{A:Option Addr}{n c:Nat}{xs:List Value}(h:w.ownsRow base e size (.slice A n c) n xs):n<=c/\c<=maxLen:=by
 obtain⟨A',c',I,h1,J⟩:=nX h
 cases I;exact⟨h1,J⟩
def ace{α:Type}{enc:α->List Value}{sz:Nat}(h:∀x,(enc x).length=sz):∀(k:Nat) (l:List α),(l.flatMap enc).drop (k*sz)=(l.drop k).flatMap enc
 | 0,l=>by simp
 |k+1,[]=>by simp
 |k+1,x::l=>by rw[nM,mR,qU,<-lW,drop_left' (h x),ace h k l];rfl
def ai1{w:World}{B:Nat}{A:Option Addr}{rs:List iT}(h:Rd w B 2 A (rs.length-1) (((rs.flatMap iT.cells).drop (1*2)).take ((rs.length-1)*2))):Rd w B 2 A (rs.length-1) ((rs.drop 1).flatMap iT.cells):=by
 rw[ace (enc:=iT.cells) (sz:=2) (λ_=>E),kg (by rw[jI (sz:=2) (λ_=>E),dO];exact aB)]at h;exact h
def adB{B g k c1 c2:Nat}{w0 w:World}{fs:List OJ}{A1 A2:Option Addr}{rs:List iT}{ls:List Ls}{W:mM}{ep nx gv kd id bd he hn:Int}(S:St B w0 w (.Oy g (dY ep nx gv (.slice A1 rs.length c1) (.slice A2 ls.length c2) W) 219:: .own 222 2 (.slice A1 rs.length c1) rs.length ((rs).flatMap iT.cells):: .own 225 4 (.slice A2 ls.length c2) ls.length ((ls).flatMap Ls.cells)::fs))(hk:k<4)(hlen:rs.length+ls.length<=500)(hnx:0<=nx/\nx<=1073741824)(hgv:0<=gv/\gv<=1073741824)(iD:0<=ep/\ep<=1048576):
 Calls prog 122 #[pV g 0,.agg #[D kd,D (k:Int),D id,D bd,D he,D hn]] w (GX B w0 g fs (Jv ⟨ep,nx,gv,rs,ls,W⟩)):=by
 refine jc 80 func122 ?_;refine cw [0,1] ?_;refine zN 2 ?_;refine jT S ?_;intro b1 w2 S3;refine iU S3 vY ?_;intro b4 w5 S6;refine zN 11 ?_;refine vv (aA E E (aV (St.cl 2 S6 E sG))) ?_;refine zQ ?_;by_cases h1:rs.length=0
 ·refine zN 7 ?_;refine vv (v:=.agg #[D 10,D 0,D 0,D 0]) iJ ?_;refine sa 0 S6 kQ ?_;intro w7 S8;refine zN 7 ?_;have S9:=S8.bq [1,0];have Fx:=S9.bZ 1 E;have EJ:=Fx.bZ 2 E;rw[aiU h1];refine⟨E,A1,c1,A2,c2,?_⟩;dsimp only;exact EJ
 refine zN 11 ?_;refine vv (aA E E (aV (St.cl 2 S6 E DC))) ?_;by_cases h2:gv=1073741824
 ·refine zN 7 ?_;refine vv (v:=.agg #[D 14,D 0,D 0,D 0]) iJ ?_;refine sa 0 S6 kQ ?_;intro w12 VU;refine zN 7 ?_;have pz:=VU.bq [1,0];have kP:=pz.bZ 1 E;have tO:=kP.bZ 2 E;rw[aiV h1 h2];refine⟨E,A1,c1,A2,c2,?_⟩;dsimp only;exact tO
 refine zN 9 ?_;have J:=S6.drew;refine gV 21 20 J [] ?_;iterate 4 refine ji ?_
 refine gk (v:=D ep) 4 E J (λ_ JA=>(aA E E (aV (St.cl 2 JA E AL)))) ?_;iterate 4 refine ji ?_
 refine gk (v:=D gv) 9 E J (λ_ aDM=>(aA E E (aV (St.cl 2 aDM E DC)))) ?_;refine gk (v:=.agg #[D ep,D gv]) 10 E J (λ_ _=>iJ) ?_;iterate 4 refine ji ?_
 refine gk (v:=.slice A1 rs.length c1) 15 E J (λ_ aqM=>(aA E E (aV (St.cl 2 aqM E sG)))) ?_;obtain⟨b34,o35,rfl⟩:=Rd.addr (St.Uz 3 J E) Y;obtain⟨I,O⟩:=NA 0 (St.Uz 3 J E) Y;refine gk 16 E J (λ_ _=>nC 0) ?_;refine gk (v:=.agg #[D I.no,D I.body]) 17 E J (λ_ aDN=>(aA E E (fu (cs:=iT.cells I) (Rd.Bb (St.Uz 3 aDN E) (λ_ _ h=>dF (enc:=iT.cells) (sz:=2) (λ_=>E) O h))))) ?_;refine gk (v:=.agg #[D ep,D gv,D I.no,D I.body]) 18 E J (λ_ _=>iJ) ?_;refine gI (m:=1) (r:=19) kQ ?_;refine o8 (i:=19) E E (V:=λb=>pV b 0) (row:= #[D 0,D 0,D 0,D 0]) (t:=225) J (wn E) E E (gK E (zeroValue225 _) E) ?_;intro b41 YN wO;refine ji ?_;refine gF kQ E E E ?_;refine sa 0 wO kQ ?_;intro Un M;refine zQ ?_;refine kC ?_;refine zN 8 ?_;refine vv (aA E E (aV (St.cl 3 M E sG))) ?_;have hcp:=fH (M.own 4 E);obtain⟨A46,aDO,aDP,aDQ⟩:=D9 (P:=prog) (t:=176) (s:=2) (A:=(aD b34 o35)) (n:=rs.length) (c:=c1) (lo:=some (D 1)) (hi:=none) (mx:=none) (l:=1) (k:=rs.length) (q:=c1) underlying176 kQ (akA 1 E Y) Y aB Y;refine vv (v:=.slice A46 (rs.length-1) (c1-1)) (lX E E (kN E) qG qG (aDO _)) ?_;have zS:=M.seal 4 E (ai1 (aDP _ _ _ (St.Uz 4 M E))) (λa h=>aDQ a h);refine zN 3 ?_;refine kZ 3 zS kQ ?_ (hs:=by exact KX);intro w51 qO;refine zN 3 ?_;have Z:=qO.drew;refine gV 13 9 Z [5] ?_;iterate 5 refine ji ?_
 refine gk (v:=.slice A2 ls.length c2) 5 E (St.del 5 Z) (λ_ aea=>(aA E E (aV (St.cl 3 aea E vZ)))) ?_;refine ji ?_;refine gI (m:=5) (r:=7) kQ ?_;refine o8 (i:=7) E E (V:=λb=>.slice (aD b 0) 1 1) (row:= #[D ep,D gv,D I.no,D I.body]) (t:=225) Z (wn E) E E (bD (vs:=[(0,.agg #[D ep,D gv,D I.no,D I.body])]) E zL kQ) ?_;intro b61 w62 ze;refine ji ?_;refine gI (m:=4) (r:=8) kQ ?_;refine nG (i:=8) E E (news:=[D ep,D gv,D I.no,D I.body]) (xs':=(ls++[(⟨ep,gv,I⟩:Ls)]).flatMap Ls.cells) 6 ze (wn E) E E E E E E (St.nP (xs:=[D ep,D gv,D I.no,D I.body]) 0 ze E E E) underlying177 ahf E dQ (dx E) lQ Y (jO (enc:=Ls.cells) E E) ?_;intro A64 c65 YP aNY aNZ wZ;refine ji ?_;refine gF kQ E E E ?_;refine zN 3 ?_;refine kZ 4 wZ kQ ?_ (hs:=by exact KY);intro w70 vS;refine zQ ?_;refine kC ?_;refine zN 7 ?_;refine vv (aA E E (aV (St.cl 4 vS E DC))) ?_;refine vv (v:=D (gv+1)) jW ?_;refine zN 3 ?_;refine kZ 4 vS kQ ?_ (hs:=by exact ab6);intro w72 tQ;refine zN 5 ?_;refine vv (aA E E (fu (cs:=[D ep,D gv]) (St.rg 1 tQ E (oG (x:=0) (m:=2) E)))) ?_;refine zN 3 ?_;refine vv (v:=.agg #[D 0,D ep,D gv,D I.body]) iJ ?_;refine sa 2 tQ kQ ?_;intro w74 Jy;refine zN 5 ?_;have Pv:=Jy.bq [3,2,1,0];have IC:=Pv.bZ 2 E;have hl1:(rs.drop 1).length=rs.length-1:=by simp
 have hl2:(ls++[(⟨ep,gv,I⟩:Ls)]).length=ls.length+1:=by simp
 rw[at6 O h2];refine⟨E,A46,(c1-1),A64,c65,?_⟩;dsimp only;rw[hl1,hl2];exact IC
abbrev bR (b:bC)(A:Option Addr)(c:Nat):Array Value:= #[D b.F9,D b.ep,D b.fr,D b.tg,D b.rd,.slice A b.Jp.length c]
abbrev zB:Array Value:= #[D 0,D 0,D 0,D 0,D 0,.slice none 0 0]
abbrev rR (k q e p:Int)(x:Ev):Array Value:= #[D k,D q,D e,D p,D x.kind,D x.OU,D x.id,D x.body,D x.OZ,D x.PX]
def ai2:flat tP 30 47=some [.at_ (.int .i64),.at_ (.int .i64)]:=kQ
def ai3:GJ tP 30 47=true:=kQ
def anC(xs:List Value):mkV tP 47 xs=.agg xs.toArray:=by
 unfold mkV;rw[underlying47]
def XO(a b c d:Int)(w:World):(binOp .eql 47 (.agg #[D a,D b]) (.agg #[D c,D d])).run tP w=.ok (.bool (a==c&&b==d)) w:=by
 have h:=zi (P:=tP) w ai2 ai3 anC (xs:=[D a,D b]) (ys:=[D c,D d]) ⟨⟨_,E⟩,⟨_,E⟩,trivial⟩ ⟨⟨_,E⟩,⟨_,E⟩,trivial⟩;rw[show fM [D a,D b] [D c,D d]=(a==c&&b==d) by simp[fM,wJ]]at h;exact h
def Bp(he hn:Int)(x:Ls):Bool:=x.iD==he&&x.PX==hn
def Uq(he hn:Int)(ls:List Ls):Int:=match ls.findIdx? (Bp he hn)with
 |some k=>(k:Int)
 |none=> -1
def NJ{he hn:Int}{ls:List Ls}(h:∀(j:Nat) (y:Ls),j<ls.length->ls[j]? =some y->Bp he hn y=false):Uq he hn ls= -1:=by
 unfold Uq;rw[findIdx?_eq_none_iff.2 (λy J=>by obtain⟨j,I,e⟩:=K3 J;exact h j y I (by rw[eT I,e]))]
def VW{he hn:Int}{ls:List Ls}{k:Nat}{x:Ls}(h:∀(j:Nat) (y:Ls),j<k->ls[j]? =some y->Bp he hn y=false)(I:ls[k]? =some x)(J:Bp he hn x=true):Uq he hn ls=k:=by
 unfold Uq;obtain⟨M,e⟩:=dw.1 I;rw[findIdx?_eq_some_iff_getElem.2 ⟨M,by rw[e];exact J,λj O=>by rw[h j _ O (eT Y)];simp⟩]
def JB{hn:Int}{ls:List Ls}(h:∀x∈ls,¬x.PX=hn):(ls.filter λx=>decide (x.PX≠hn))=ls:=filter_eq_self.2 λx I=>by simpa using h x I
def ai4{hn:Int}{ls:List Ls}{k:Nat}{x:Ls}(J:ls[k]? =some x)(M:x.PX=hn)(hu:∀(i j:Nat) (a b:Ls),ls[i]? =some a->ls[j]? =some b->a.PX=b.PX->i=j):(ls.filter λx=>decide (x.PX≠hn))=ls.eraseIdx k:=by
 obtain⟨hk,e⟩:=dw.1 J;have e1:ls=ls.take k++x::ls.drop (k+1):=by rw[<-e,<-yc hk,yg]
 rw[eraseIdx_eq_take_drop_succ]
 conv=>lhs;rw[e1]
 rw[filter_append,filter_cons,ah (by simp[M])]
 congr 1
 ·refine JB λy O h=>?_;obtain⟨j,Z,I⟩:=K3 O;rw[eD]at Z;have:=hu j k y x (by rw[getElem_take]at I;rw[<-I];exact eT Y) J (by rw[h,M]);omega
 refine JB λy O h=>?_;obtain⟨j,Z,I⟩:=K3 O;rw[dO]at Z;have:=hu (k+1+j) k y x (by rw[getElem_drop]at I;rw[<-I];exact eT Y) J (by rw[h,M]);omega
def aaI(x:Ls)(b:Nat)(he hn:Int)(w:World)(h:Rd w w.heap.size 2 (aD b 4) 1 [D he,D hn]):
 Calls tP 129 #[.agg #[D x.iD,D x.PX,D x.UD.no,D x.UD.body],pV b 0] w (Iy w (x.iD==he&&x.PX==hn)):=by
 have S:=(St.start w).dJ h;refine jc 9 func129 ?_;refine cw [0,1] ?_;refine zN 2 ?_;refine jT S ?_;intro b1 J I;refine zN 6 ?_;refine vv (aA E E (fu (cs:=[D x.iD,D x.PX]) (St.rg 0 I E (oG (x:=0) (m:=2) E)))) ?_;refine zQ ?_;refine vv (v:=.agg #[D he,D hn]) (aA E E (fu (cs:=[D he,D hn]) (Rd.Bb (off:=4) (j:=0) (St.rd 1 I E) (λi u h=>by rw[fU];exact h)))) ?_;refine vv (v:=.bool (x.iD==he&&x.PX==hn)) (cK E E E (Dx kQ (XO x.iD x.PX he hn _))) ?_;refine zN 5 ?_;exact⟨E,I.Qe⟩
def XP(A:Option Addr)(c b:Nat)(he hn:Int)(ls:List Ls)(w:World)(h:Rd w w.heap.size 4 A ls.length (ls.flatMap Ls.cells))(h2:Rd w w.heap.size 2 (aD b 4) 1 [D he,D hn])(hl:ls.length<=500):
 Calls tP 128 #[.slice A ls.length c,.func (.func 129) #[] #[pV b 0]] w (Zn w (Uq he hn ls)):=by
 have S:=((St.start w).dJ h).dJ h2;refine jc 19 func128 ?_;refine cw [0,1] ?_;refine zN 14 ?_;refine iO (X:=Nat) (λxv=>[(0,.slice A ls.length c),(1,.func (.func 129) #[] #[pV b 0]),(4,D 0),(7,D (ls.length:Int)),(8,D (xv:Int))]) (λxv wr=>(xv<=ls.length)/\(∀(j:Nat) (y:Ls),j<xv->ls[j]? =some y->Bp he hn y=false)/\St w.heap.size w wr [.rd 2 (aD b 4) 1 [D he,D hn],.rd 4 A ls.length ((ls).flatMap Ls.cells)]) (λxv=>ls.length-xv) (0) ?_ ?_ ?_
 ·exact⟨aG _,λj y hj=>av hj (Tf _),S⟩
 ·exact CO
 rintro k w1 ⟨hi3,I,J⟩
 try dsimp only at hi3 I J
 refine cB (l':=[(0,.slice A ls.length c),(1,.func (.func 129) #[] #[pV b 0]),(4,D 0),(7,D (ls.length:Int)),(8,D (k:Int))]) CO (bH (aL ?_));by_cases h5:(k:Int)< (ls.length:Int)
 ·refine zN 20 ?_;obtain⟨b6,o7,rfl⟩:=Rd.addr (St.rd 1 J E) Y;obtain⟨O,Z⟩:=NA k (St.rd 1 J E) Y;refine vv (nC k) ?_;refine vv (aA E E (fu (cs:=Ls.cells O) (Rd.Bb (St.rd 1 J E) (λ_ _ h=>dF (enc:=Ls.cells) (sz:=4) (λ_=>E) Z h)))) ?_;have HC:=λw h=>aaI O b he hn w h
  cases M:Bp he hn O
  ·rw[show(O.iD==he&&O.PX==hn)=false from M]at HC;refine yR eQ (HC _ (St.rd 0 J E)) ?_;rintro _ w10 ⟨rfl,aDR⟩;refine⟨_,E,?_⟩;have EJ:=J.on aDR;refine zN 7 ?_;refine vv (v:=D ((k+1:Nat):Int)) jW ?_;refine zN 2 ?_;refine dL (k+1) ?_ CO (by first|omega|(dsimp only;omega));exact⟨Y,(λj y hj hy=>(Gm.1 hj).elim (λh=>I j y h hy) (λh=>by rw[h,Z]at hy;cases hy;exact M)),EJ⟩
  rw[show(O.iD==he&&O.PX==hn)=true from M]at HC;refine yR eQ (HC _ (St.rd 0 J E)) ?_;rintro _ Fy ⟨rfl,aDS⟩;refine⟨_,E,?_⟩;have pz:=J.on aDS;refine zN 16 ?_;exact⟨jr (VW I Z M).symm,pz.Qe⟩
 refine zN 17 ?_;exact⟨jr (NJ (λj y hj hy=>I j y Y hy)).symm,J.Qe⟩
def anD{he hn:Int}{ls:List Ls}(h:¬ ∃(k:Nat) (x:Ls),ls[k]? =some x/\Bp he hn x=true/\ ∀(j:Nat) (y:Ls),j<k->ls[j]? =some y->Bp he hn y=false):∀y∈ls,Bp he hn y=false:=by
 intro y I
 rcases hf:ls.findIdx? (Bp he hn)with _|k
 ·exact findIdx?_eq_none_iff.1 hf y I
 obtain⟨J,h1,M⟩:=findIdx?_eq_some_iff_getElem.1 hf;refine av ⟨k,ls[k],eT J,h1,λj z O Z=>?_⟩ h;have:=M j O;obtain⟨hj',e⟩:=dw.1 Z;rw[e]at this;simpa using this
def anE{he hn:Int}{x:Ls}(h:Bp he hn x=true):x.PX=hn:=by simp[Bp]at h;exact h.2
def anF{he hn ep:Int}{x:Ls}(h:x.iD=ep)(h1:he=ep)(I:x.PX=hn):Bp he hn x=true:=by simp[Bp,h,h1,I]
def aed{B g k c1 c2:Nat}{w0 w:World}{fs:List OJ}{A1 A2:Option Addr}{rs:List iT}{ls:List Ls}{W:mM}{ep nx gv kd id bd he hn:Int}(S:St B w0 w (.Oy g (dY ep nx gv (.slice A1 rs.length c1) (.slice A2 ls.length c2) W) 219:: .own 222 2 (.slice A1 rs.length c1) rs.length ((rs).flatMap iT.cells):: .own 225 4 (.slice A2 ls.length c2) ls.length ((ls).flatMap Ls.cells)::fs))(hk:k<4)(hlen:rs.length+ls.length<=500)(hnx:0<=nx/\nx<=1073741824)(hgv:0<=gv/\gv<=1073741824)(iD:0<=ep/\ep<=1048576)(hE:∀x∈ls,x.iD=ep)(hU:∀(i j:Nat) (a b:Ls),ls[i]? =some a->ls[j]? =some b->a.PX=b.PX->i=j):
 Calls tP 123 #[pV g 0,.agg #[D kd,D (k:Int),D id,D bd,D he,D hn]] w (GX B w0 g fs (GU ⟨ep,nx,gv,rs,ls,W⟩ he hn)):=by
 refine jc 41 func123 ?_;refine cw [0,1] ?_;refine zN 2 ?_;refine jT S ?_;intro b1 w2 S3;refine iU S3 vY ?_;intro b4 w5 S6;refine zN 5 ?_;refine je S6 mixed kQ ?_;refine zN 7 ?_;refine uv (v:=D ep) (λ_ aqN=>(aA E E (aV (St.cl 2 aqN E AL)))) ?_;by_cases h1:he=ep
 ·refine zQ ?_;refine jB λw16 I=>?_;refine zN 10 ?_;refine vv (aA E E (aV (St.cl 2 I E vZ))) ?_;refine vv LZ ?_;have HI:=λA c w h h2=>XP A c b1 he hn ls w h h2 Y
  rcases Classical.em (∃(k:Nat) (x:Ls),ls[k]? =some x/\Bp he hn x=true/\ ∀(j:Nat) (y:Ls),j<k->ls[j]? =some y->Bp he hn y=false)with⟨kk,x,hx,hm,hbf⟩|PX
  ·rw[VW hbf hx hm]at HI;have Z:=(dw.1 hx).1;refine dZ eQ (HI _ _ _ (St.Uz 4 I E) (ahg 1 I E E (λj u h=>by rcases j with _|_|_<;>first|exact h|(simp at h)))) ?_;rintro _ Pq ⟨rfl,aqK⟩;refine⟨_,E,?_⟩;have J:=I.on aqK;refine zN 20 ?_;refine vv (aA E E (aV (St.cl 2 J E vZ))) ?_;refine zN 2 ?_;refine vv (v:=D ((kk+1:Nat):Int)) jW ?_;obtain⟨g2,rfl⟩:=GQ (J.own 4 E) Y;refine dZ eQ (XD g2 ls.length c2 kk _ (ls.flatMap Ls.cells) _ (J.own 4 E) (ab9 _) Z) ?_;rintro _ Iz ⟨rfl,aDT,M⟩;refine⟨_,E,?_⟩;rw[MH (enc:=Ls.cells) (sz:=4) (λ_=>E)]at M;have l6:=J.agE 4 E aDT M;refine zN 3 ?_;refine kZ 2 l6 kQ ?_ (hs:=by exact KY);intro w25 vK;refine zN 5 ?_;refine sa 0 vK kQ ?_;intro QF vR;refine zN 5 ?_;have vT:=vR.bq [1,0];have Ed:=vT.bZ 1 E;have tu:=Ed.bZ 2 E;have hel:(ls.eraseIdx kk).length=ls.length-1:=length_eraseIdx_of_lt Z;have hfo:=ai4 hx (anE hm) hU;rw[at7 h1 (by rw[hfo,hel];omega),hfo];refine⟨E,A1,c1,(aD g2 0),c2,?_⟩;dsimp only;rw[hel];exact tu
  have O:=anD PX;rw[NJ (λj y _ hy=>O y (jN hy))]at HI;refine dZ eQ (HI _ _ _ (St.Uz 4 I E) (ahg 1 I E E (λj u h=>by rcases j with _|_|_<;>first|exact h|(simp at h)))) ?_;rintro _ w32 ⟨rfl,aDU⟩;refine⟨_,E,?_⟩;have yB:=I.on aDU;refine zN 13 ?_;refine vv (v:=.agg #[D 7,D 0,D 0,D 0]) iJ ?_;refine sa 0 yB kQ ?_;intro w35 vU;refine zN 6 ?_;have Fz:=vU.bq [1,0];have CS:=Fz.bZ 1 E;have Co:=CS.bZ 2 E;rw[aiW h1 (by rw[JB (λy hy hyn=>by have:=O y hy;rw[anF (hE y hy) h1 hyn]at this;cases this)])];refine⟨E,A1,c1,A2,c2,?_⟩;dsimp only;exact Co
 refine zQ ?_;refine jB λw41 Ee=>?_;refine zN 4 ?_;refine vv (v:=.agg #[D 11,D 0,D 0,D 0]) iJ ?_;refine sa 0 Ee kQ ?_;intro w43 EK;refine zN 6 ?_;have tC:=EK.bq [1,0];have zf:=tC.bZ 1 E;have BS:=zf.bZ 2 E;rw[ad2 h1];refine⟨E,A1,c1,A2,c2,?_⟩;dsimp only;exact BS
def aee{B g k c1 c2:Nat}{w0 w:World}{fs:List OJ}{A1 A2:Option Addr}{rs:List iT}{ls:List Ls}{W:mM}{ep nx gv kd id bd he hn:Int}(S:St B w0 w (.Oy g (dY ep nx gv (.slice A1 rs.length c1) (.slice A2 ls.length c2) W) 219:: .own 222 2 (.slice A1 rs.length c1) rs.length ((rs).flatMap iT.cells):: .own 225 4 (.slice A2 ls.length c2) ls.length ((ls).flatMap Ls.cells)::fs))(hk:k<4)(hlen:rs.length+ls.length<=500)(hnx:0<=nx/\nx<=1073741824)(hgv:0<=gv/\gv<=1073741824)(iD:0<=ep/\ep<=1048576)(hA:uP rs)(hN:(qH rs ls).Nodup):
 Calls prog 124 #[pV g 0,.agg #[D kd,D (k:Int),D id,D bd,D he,D hn]] w (GX B w0 g fs (GV ⟨ep,nx,gv,rs,ls,W⟩)):=by
 refine jc 63 func124 ?_;refine cw [0,1] ?_;refine zN 2 ?_;refine jT S ?_;intro b1 w2 S3;refine iU S3 vY ?_;intro b4 w5 S6;refine zN 10 ?_;refine vv (aA E E (aV (St.cl 2 S6 E AL))) ?_;by_cases h1:ep=1048576
 ·refine zN 6 ?_;refine vv (v:=.agg #[D 14,D 0,D 0,D 0]) iJ ?_;refine sa 0 S6 kQ ?_;intro w7 S8;refine zN 6 ?_;have S9:=S8.bq [1,0];have Fx:=S9.bZ 1 E;have EJ:=Fx.bZ 2 E;rw[aiX h1];refine⟨E,A1,c1,A2,c2,?_⟩;dsimp only;exact EJ
 refine zN 13 ?_;refine vv (aA E E (aV (St.cl 2 S6 E vZ))) ?_;refine zN 5 ?_;refine iO (X:=Nat×(Option Addr)×Nat) (λJ=>[(0,pV g 0),(4,pV b4 0),(5,.bool false),(19,.slice A2 ls.length c2),(20,D (ls.length:Int)),(21,D (J.1:Int))]) (λJ wr=>(J.1<=ls.length)/\St B w0 wr ((.Oy b4 #[D 0,D 0,D 0,D 0] 54)::(.Oy b1 #[D kd,D (k:Int),D id,D bd,D he,D hn] 49)::(.Oy g (dY ep nx gv (.slice J.2.1 (rs.length+J.1) J.2.2) (.slice A2 ls.length c2) W) 219)::(.own 222 2 (.slice J.2.1 (rs.length+J.1) J.2.2) (rs.length+J.1) ((rs++(ls.take J.1).map (·.UD)).flatMap iT.cells))::(.own 225 4 (.slice A2 ls.length c2) ls.length ((ls).flatMap Ls.cells))::fs)) (λJ=>ls.length-J.1) (0,A1,c1) ?_ ?_ ?_
 ·exact⟨aG _,by dsimp only;rw[show rs++(ls.take 0).map (·.UD)=rs by simp];exact S6⟩
 ·exact uV
 rintro⟨q,Ab,cb⟩ w12 ⟨OD,M⟩
 try dsimp only at OD M
 refine cB (l':=[(0,pV g 0),(4,pV b4 0),(5,.bool false),(19,.slice A2 ls.length c2),(20,D (ls.length:Int)),(21,D (q:Int))]) uV (bH (aL ?_));by_cases h15:(q:Int)< (ls.length:Int)
 ·refine zN 11 ?_;obtain⟨b16,o17,rfl⟩:=Rd.addr (St.Uz 4 M E) Y;obtain⟨I,awc⟩:=NA q (St.Uz 4 M E) Y;refine vv (nC q) ?_;refine vv (aA E E (fu (cs:=Ls.cells I) (Rd.Bb (St.Uz 4 M E) (λ_ _ h=>dF (enc:=Ls.cells) (sz:=4) (λ_=>E) awc h)))) ?_;refine iU M avZ ?_;intro b20 Iz l6;refine sa 0 l6 kQ ?_;intro Ma l7;refine zN 2 ?_;have Z:=l7.drew;refine gV 14 10 Z [4] ?_;iterate 5 refine ji ?_
  refine gk (v:=.slice Ab (rs.length+q) cb) 5 E (St.del 4 Z) (λ_ aef=>(aA E E (aV (St.cl 3 aef E sG)))) ?_;refine ji ?_;refine gk (v:=.agg #[D I.UD.no,D I.UD.body]) 7 E (St.del 4 Z) (λ_ aqM=>(aA E E (fu (cs:=[D I.UD.no,D I.UD.body]) (St.rg 0 aqM E (oG (x:=2) (m:=2) E))))) ?_;refine gI (m:=5) (r:=8) kQ ?_;refine o8 (i:=8) E E (V:=λb=>.slice (aD b 0) 1 1) (row:= #[D I.UD.no,D I.UD.body]) (t:=222) Z (wn E) E E (bD (vs:=[(0,.agg #[D I.UD.no,D I.UD.body])]) E zL kQ) ?_;intro b34 w35 vU;refine ji ?_;refine gI (m:=4) (r:=9) kQ ?_;refine nG (i:=9) E E (news:=[D I.UD.no,D I.UD.body]) (xs':=(rs++(ls.take (q+1)).map (·.UD)).flatMap iT.cells) 5 vU (wn E) E E E E E E (St.nP (xs:=[D I.UD.no,D I.UD.body]) 0 vU E E E) underlying176 YE E dQ (dx E) lQ Y (jO (enc:=iT.cells) (by rw[gP,MO (f:=λx:Ls=>x.UD) awc]) E) ?_;intro A37 c38 w39 aN0 aN1 zh;refine ji ?_;refine gF kQ E E E ?_;refine zN 3 ?_;refine kZ 4 zh kQ ?_ (hs:=by exact KX);intro w43 EK;refine zQ ?_;refine kC ?_;refine zN 3 ?_;refine vv (v:=D ((q+1:Nat):Int)) jW ?_;refine zN 2 ?_;have tC:=EK.bq [1,0];refine dL (q+1,A37,c38) ?_ uV (by first|omega|(dsimp only;omega));exact⟨uQ,tC⟩
 refine zN 12 ?_;obtain rfl:q=ls.length:=Y;have O:=M;rw[jM]at O;refine zN 4 ?_;refine vv (aA E E (aV (St.cl 2 O E sG))) ?_;have hml:(rs++ls.map (·.UD)).length=rs.length+ls.length:=by simp
 have HS:=λA c w (ho:World.ownsRow w B 222 2 (.slice A (rs++ls.map (·.UD)).length c) (rs++ls.map (·.UD)).length ((rs++ls.map (·.UD)).flatMap iT.cells))=>XK A c (rs++ls.map (·.UD)) w ho Y;rw[hml]at HS;refine dZ eQ (HS Ab cb _ (O.own 3 E)) ?_;rintro _ w47 ⟨rfl,d49,awd,aDV,awe,awf⟩;refine⟨_,E,?_⟩;have CU:=O.append 3 E awf awe (.inl E);have hdl:=aiY awd aDV hA hN;clear HS awe awf O;refine zN 8 ?_;refine kZ 2 CU kQ ?_ (hs:=by exact KY);intro w54 yL;refine zN 8 ?_;refine vv (aA E E (aV (St.cl 2 yL E AL))) ?_;refine vv (v:=D (ep+1)) jW ?_;refine zN 3 ?_;refine kZ 2 yL kQ ?_ (hs:=by exact anj);intro w56 wY;refine zN 8 ?_;refine kZ 2 wY kQ ?_ (hs:=by exact ab6);intro w58 zT;refine zN 5 ?_;refine sa 0 zT kQ ?_;intro w60 IE;refine zN 5 ?_;have Ef:=IE.bq [1,0];have ze:=Ef.bZ 1 E;have S64:=ze.seal 2 E Rd.Ur (λ(a:Addr) (h:(none:Option Addr)=some a)=>by cases h);have hln:d49.length=rs.length+ls.length:=by rw[awd.length_eq,hml]
 rw[aua h1,<-hdl];refine⟨E,Ab,cb,none,0,?_⟩;dsimp only;rw[hln];exact S64
section
variable {P:Program}{N:Nat}{l l':P7}{w w' w0:World}{ops:Array Oper}{o:Oper}{rest:List Oper}{Q:Exit->Act->World->Prop}{d B:Nat}{v p:Value}{fs fs':List OJ}{b m f:Nat}{row row' cs:Array Value}{t ty:TypeId}{x y:Operand}
def saq(i:Nat)(S:St B w0 w fs)(I:(P.info? ty).map (·.size)=some m)(h:∀w',St B w0 w' fs'->wL P N ops Q rest l w')(hw:o.guard=none:=by exact E)(J:o.dst=none:=by exact E)(M:o.op=.store ty x y:=by exact E)
  (O:ev l x=some (.pointer (some ⟨b,0,none⟩)):=by exact E) (Z:ev l y=some v:=by exact E) (hi:fs[i]? =some (.Oy b row t):=by exact E) (hv:v.cells=cs:=by exact E) (hm:cs.size=m:=by exact E)
  (h1:∀u∈cs.toList,u.oneCell'=true:=by exact ML E E) (hr:ble m row.size=true:=by exact E) (hs:row.size=cs.size:=by exact E) (hf:jR (.Oy b cs t) fs i fs':=by repeat' first|exact jR.z|apply jR.s):wL P N ops Q (o::rest) l w:=
 Ii i S (wn hw) J M O Z hi hv I hm h1 (by rw[fU];exact fV hr) (uM hs) hf.eq h
def snq{C:World->Prop}{n:Nat}{listed listed':Array Bool}(j:Nat)(I:ops[j]? =some o)(i:Nat)(S:St B w0 w fs)(J:(P.info? ty).map (·.size)=some m)(h:∀w',St B w0 w' fs'->C w'/\wA P N ops Q C n listed' l w')(M:listed.setIfInBounds j true=listed':=by exact E)
  (hw:o.guard=none:=by exact E) (O:o.dst=none:=by exact E) (Z:o.op=.store ty x y:=by exact E) (hx:ev l x=some (.pointer (some ⟨b,0,none⟩)):=by exact E) (hy:ev l y=some v:=by exact E) (hi:fs[i]? =some (.Oy b row t):=by exact E) (hv:v.cells=cs:=by exact E)
  (hm:cs.size=m:=by exact E) (h1:∀u∈cs.toList,u.oneCell'=true:=by exact ML E E) (hr:ble m row.size=true:=by exact E) (hs:row.size=cs.size:=by exact E) (hf:jR (.Oy b cs t) fs i fs':=by repeat' first|exact jR.z|apply jR.s):wK P N ops Q C n j listed l w:=
 wV I M i S (wn hw) O Z hx hy hi hv J hm h1 (by rw[fU];exact fV hr) (uM hs) hf.eq h
end
def Kc(e:Ev)(w:World):Calls prog 78 #[e.val] w (Zn w (bK e)):=(J4 e w).mono λ_ _ h=>⟨h.1,h.2⟩
def MR{B:Nat}{w0 w:World}(S:St B w0 w []):St B w0 w [.dR 2 none 0 [],.dR 4 none 0 []]:=
 (aI S).cons ⟨Rd.Ur,λa h=>by cases h⟩ λk I=>by cases I
def zq(ep nx gv kd pr id bd he hn:Int)(A1 A2:Option Addr)(c1 c2:Nat)(rs:List iT)(ls:List Ls)(W:mM)(w:World)(h1:Rd w w.heap.size 2 A1 rs.length (rs.flatMap iT.cells))(h2:Rd w w.heap.size 4 A2 ls.length (ls.flatMap Ls.cells))(hb1:rs.length*16<=reachBytes)(hb2:ls.length*32<=reachBytes):
 Calls prog 111 #[.agg (dY ep nx gv (.slice A1 rs.length c1) (.slice A2 ls.length c2) W),.agg #[D kd,D pr,D id,D bd,D he,D hn]] w (anz w (jU ⟨ep,nx,gv,rs,ls,W⟩ ⟨kd,pr,id,bd,he,hn⟩)):=by
 have S:=((St.start w).dJ h2).dJ h1;refine jc 70 func111 ?_;refine cw [0,1] ?_;refine zN 2 ?_;refine jT S ?_;intro b1 w2 S3;refine jT S3 ?_;intro b4 w5 S6;refine nR (V:=λb=>pV b 0) (row:=dY 0 0 0 (.slice none 0 0) (.slice none 0 0) lg) (t:=183) S6 (wn E) E E (gK E (zeroValue183 _) E) ?_;intro b7 w8 S9;refine iU S9 vY ?_;intro b10 L6 sI;refine zN 8 ?_;refine UR eQ sI (ahv ep nx gv A1 A2 c1 c2 rs ls W _ (St.rd 4 sI E) (St.rd 5 sI E) hb1 hb2) ?_;intro Fy pz;refine zN 6 ?_;by_cases h0:iL ep nx gv rs ls W=0
 ·obtain⟨hR,hW,hRd,hLs,hNd⟩:=Tc h0;unfold Vj at hR;refine zN 10 ?_;refine UR eQ pz (Kc ⟨kd,pr,id,bd,he,hn⟩ _) ?_;intro w16 Bc;refine zN 6 ?_;by_cases h1:bK ⟨kd,pr,id,bd,he,hn⟩=0
  ·have hkd:=anB h1;have hpr:=ab8 h1;simp only at hkd hpr;obtain⟨k,hk0⟩:∃k:Nat,pr=(k:Int):=⟨pr.toNat,by omega⟩;subst hk0;have hk:k<4:=Y;refine zN 9 ?_;refine vv (v:=.agg (dY ep nx gv (.slice A1 rs.length c1) (.slice A2 ls.length c2) W)) iJ ?_;refine jT Bc ?_;intro h w20 xM;refine zN 4 ?_;have l6:=xM.drew;refine aU 16 l6 [0] ?_;refine aW 3 ?_;refine ak (v:=.slice A1 rs.length c1) 3 E (St.del 0 l6) (λ_ aqO=>(aA E E (aV (St.cl 3 aqO E sG)))) ?_;refine dI ?_;refine ak (v:=.slice A2 ls.length c2) 6 E (St.del 0 l6) (λ_ aqP=>(aA E E (aV (St.cl 3 aqP E vZ)))) ?_;refine bJ 4 ?_;refine ku 4 E eQ (aht A1 rs.length c1 _ _ (St.rd 5 l6 E) (ai0 rs) hb1) ?_;rintro _ w33 ⟨J,M,rfl,aDW,aDX⟩;refine⟨_,E,?_⟩;have uy:=l6.wT aDW aDX;refine dI ?_;refine bJ 7 ?_;refine ku 7 E eQ (ahu A2 ls.length c2 _ _ (St.rd 7 uy E) (ab9 ls) hb2) ?_;rintro _ w39 ⟨O,Z,rfl,aqL,aDY⟩;refine⟨_,E,?_⟩;have zh:=uy.wT aqL aDY;refine aW 4 ?_;refine bJ 11 ?_;refine snz 11 E 2 zh kQ ?_ (hs:=by exact KX);intro Un tC;refine aW 4 ?_;refine bJ 15 ?_;refine snz 15 E 2 tC kQ ?_ (hs:=by exact KY);intro w49 zS;refine aW 2 ?_;refine zN 3 ?_;refine MJ (k:=3) zS (wn E) E E E ?_;intro b51 w52 CP;refine zQ ?_;refine vv LZ ?_;refine mW (e:=226) 0 CP (wn E) E E E E E E underlying3 underlying227 dQ dQ ?_;intro w54 yL;refine zQ ?_;refine vv LZ ?_;refine mW (e:=226) 0 yL (wn E) E E E E E E underlying3 underlying227 dQ dQ ?_;intro w56 wY;refine zQ ?_;refine vv LZ ?_;refine mW (e:=226) 0 wY (wn E) E E E E E E underlying3 underlying227 dQ dQ ?_;intro w58 zT;refine zQ ?_;refine vv LZ ?_;refine mW (e:=226) 0 zT (wn E) E E E E E E underlying3 underlying227 dQ dQ ?_;intro w60 IE;refine zN 3 ?_
   rcases(by omega:kd=1\/kd=2\/kd=3\/kd=4)with rfl|rfl|rfl|rfl
   ·refine vv (v:=.func (.func 121) #[pV h 0] #[]) (lY 0 IE E E E E underlying3 underlying227 (zeroValue226 _) dQ E) ?_;refine zN 7 ?_;have Ef:St w.heap.size w w60 [.Oy h (dY ep nx gv (.slice J rs.length M) (.slice O ls.length Z) W) 219,.own 222 2 (.slice J rs.length M) rs.length ((rs).flatMap iT.cells),.own 225 4 (.slice O ls.length Z) ls.length ((ls).flatMap Ls.cells),.loc b51 (sP prog 3 (λy=>if y=4 then some (.func (.func 124) #[pV h 0] #[])else(λy=>if y=3 then some (.func (.func 123) #[pV h 0] #[])else(λy=>if y=2 then some (.func (.func 122) #[pV h 0] #[])else(λy=>if y=1 then some (.func (.func 121) #[pV h 0] #[])else(λ_=>none) y) y) y) y) 4),.Oy b10 #[D 0,D 0,D 0,D 0] 54,.Oy b7 (dY 0 0 0 (.slice none 0 0) (.slice none 0 0) lg) 183,.Oy b4 #[D 1,D (k:Int),D id,D bd,D he,D hn] 49,.Oy b1 (dY ep nx gv (.slice A1 rs.length c1) (.slice A2 ls.length c2) W) 183,.rd 2 A1 rs.length ((rs).flatMap iT.cells),.rd 4 A2 ls.length ((ls).flatMap Ls.cells)]:=IE.re [3,2,1,0,4,5,6,7,8,9] dQ;have HC:=ade (kd:=1) (k:=k) (id:=id) (bd:=bd) (he:=he) (hn:=hn) Ef hk Y Y Y Y;rw[<-show Qh ⟨ep,nx,gv,rs,ls,W⟩ ⟨1,(k:Int),id,bd,he,hn⟩=Ec ⟨ep,nx,gv,rs,ls,W⟩ k id bd from by simp[Qh]]at HC;obtain⟨R,I⟩:∃R,Qh ⟨ep,nx,gv,rs,ls,W⟩ ⟨1,(k:Int),id,bd,he,hn⟩=R:=⟨_,E⟩;rw[I]at HC;refine yR eQ (HC) ?_;rintro _ w67 ⟨rfl,A63,c64,A65,c66,EL⟩;refine⟨_,E,?_⟩;refine zN 3 ?_;refine iU EL vY ?_;intro b69 w70 vS;refine sa 0 vS kQ ?_;intro w72 tQ;refine zN 4 ?_;have QG:=tQ.drew;refine aU 10 QG [6,5] ?_;refine aW 6 ?_;refine bJ 6 ?_;refine snq 6 E 6 QG kQ ?_;intro w81 S82;refine dI ?_;refine bJ 7 ?_;refine sn 7 E 5 S82 kQ ?_;intro w83 IG;refine aW 4 ?_;refine zN 2 ?_;refine fK (rs:=[.cell 4 183,.cell 5 54,.tmp 6,.tmp 7]) (vs:=[.agg (dY R.1.ep R.1.nx R.1.gv (.slice A63 R.1.ready.length c64) (.slice A65 R.1.cZ.length c66) R.1.ws),.agg #[D R.2.1.code,D R.2.1.iD,D R.2.1.PX,D R.2.1.body],.bool R.2.2,D 0]) E ⟨⟨_,E,gD 6 IG E underlying183 E kQ⟩,⟨_,E,gD 5 IG E underlying54 E kQ⟩,E,E,trivial⟩ ?_;have JC:=IG.bq [10,9,8,7,6,5,4,1,0];rw[BO (Q:=⟨ep,nx,gv,rs,ls,W⟩) h0 h1,I];exact⟨A63,c64,A65,c66,E,JC⟩
   ·refine vv (v:=.func (.func 122) #[pV h 0] #[]) (lY 0 IE E E E E underlying3 underlying227 (zeroValue226 _) dQ E) ?_;refine zN 7 ?_;have Px:St w.heap.size w w60 [.Oy h (dY ep nx gv (.slice J rs.length M) (.slice O ls.length Z) W) 219,.own 222 2 (.slice J rs.length M) rs.length ((rs).flatMap iT.cells),.own 225 4 (.slice O ls.length Z) ls.length ((ls).flatMap Ls.cells),.loc b51 (sP prog 3 (λy=>if y=4 then some (.func (.func 124) #[pV h 0] #[])else(λy=>if y=3 then some (.func (.func 123) #[pV h 0] #[])else(λy=>if y=2 then some (.func (.func 122) #[pV h 0] #[])else(λy=>if y=1 then some (.func (.func 121) #[pV h 0] #[])else(λ_=>none) y) y) y) y) 4),.Oy b10 #[D 0,D 0,D 0,D 0] 54,.Oy b7 (dY 0 0 0 (.slice none 0 0) (.slice none 0 0) lg) 183,.Oy b4 #[D 2,D (k:Int),D id,D bd,D he,D hn] 49,.Oy b1 (dY ep nx gv (.slice A1 rs.length c1) (.slice A2 ls.length c2) W) 183,.rd 2 A1 rs.length ((rs).flatMap iT.cells),.rd 4 A2 ls.length ((ls).flatMap Ls.cells)]:=IE.re [3,2,1,0,4,5,6,7,8,9] dQ;have HC:=adB (kd:=2) (k:=k) (id:=id) (bd:=bd) (he:=he) (hn:=hn) Px hk Y Y Y Y;rw[<-show Qh ⟨ep,nx,gv,rs,ls,W⟩ ⟨2,(k:Int),id,bd,he,hn⟩=Jv ⟨ep,nx,gv,rs,ls,W⟩from by simp[Qh]]at HC;obtain⟨R,I⟩:∃R,Qh ⟨ep,nx,gv,rs,ls,W⟩ ⟨2,(k:Int),id,bd,he,hn⟩=R:=⟨_,E⟩;rw[I]at HC;refine yR eQ (HC) ?_;rintro _ w93 ⟨rfl,A89,c90,A91,c92,Ka⟩;refine⟨_,E,?_⟩;refine zN 3 ?_;refine iU Ka vY ?_;intro b95 w96 II;refine sa 0 II kQ ?_;intro w98 S99;refine zN 4 ?_;have yT:=S99.drew;refine aU 10 yT [6,5] ?_;refine aW 6 ?_;refine bJ 6 ?_;refine snq 6 E 6 yT kQ ?_;intro aDZ xV;refine dI ?_;refine bJ 7 ?_;refine sn 7 E 5 xV kQ ?_;intro ad8 uz;refine aW 4 ?_;refine zN 2 ?_;refine fK (rs:=[.cell 4 183,.cell 5 54,.tmp 6,.tmp 7]) (vs:=[.agg (dY R.1.ep R.1.nx R.1.gv (.slice A89 R.1.ready.length c90) (.slice A91 R.1.cZ.length c92) R.1.ws),.agg #[D R.2.1.code,D R.2.1.iD,D R.2.1.PX,D R.2.1.body],.bool R.2.2,D 0]) E ⟨⟨_,E,gD 6 uz E underlying183 E kQ⟩,⟨_,E,gD 5 uz E underlying54 E kQ⟩,E,E,trivial⟩ ?_;have xW:=uz.bq [10,9,8,7,6,5,4,1,0];rw[BO (Q:=⟨ep,nx,gv,rs,ls,W⟩) h0 h1,I];exact⟨A89,c90,A91,c92,E,xW⟩
   ·refine vv (v:=.func (.func 123) #[pV h 0] #[]) (lY 0 IE E E E E underlying3 underlying227 (zeroValue226 _) dQ E) ?_;refine zN 7 ?_;have G6:St w.heap.size w w60 [.Oy h (dY ep nx gv (.slice J rs.length M) (.slice O ls.length Z) W) 219,.own 222 2 (.slice J rs.length M) rs.length ((rs).flatMap iT.cells),.own 225 4 (.slice O ls.length Z) ls.length ((ls).flatMap Ls.cells),.loc b51 (sP prog 3 (λy=>if y=4 then some (.func (.func 124) #[pV h 0] #[])else(λy=>if y=3 then some (.func (.func 123) #[pV h 0] #[])else(λy=>if y=2 then some (.func (.func 122) #[pV h 0] #[])else(λy=>if y=1 then some (.func (.func 121) #[pV h 0] #[])else(λ_=>none) y) y) y) y) 4),.Oy b10 #[D 0,D 0,D 0,D 0] 54,.Oy b7 (dY 0 0 0 (.slice none 0 0) (.slice none 0 0) lg) 183,.Oy b4 #[D 3,D (k:Int),D id,D bd,D he,D hn] 49,.Oy b1 (dY ep nx gv (.slice A1 rs.length c1) (.slice A2 ls.length c2) W) 183,.rd 2 A1 rs.length ((rs).flatMap iT.cells),.rd 4 A2 ls.length ((ls).flatMap Ls.cells)]:=IE.re [3,2,1,0,4,5,6,7,8,9] dQ;have HC:=aed (kd:=3) (k:=k) (id:=id) (bd:=bd) (he:=he) (hn:=hn) G6 hk Y Y Y Y (aud hLs) (aue hLs);rw[<-show Qh ⟨ep,nx,gv,rs,ls,W⟩ ⟨3,(k:Int),id,bd,he,hn⟩=GU ⟨ep,nx,gv,rs,ls,W⟩ he hn from by simp[Qh]]at HC;obtain⟨R,I⟩:∃R,Qh ⟨ep,nx,gv,rs,ls,W⟩ ⟨3,(k:Int),id,bd,he,hn⟩=R:=⟨_,E⟩;rw[I]at HC;refine yR eQ (HC) ?_;rintro _ awi ⟨rfl,awj,c116,awk,awl,xk⟩;refine⟨_,E,?_⟩;refine zN 3 ?_;refine iU xk vY ?_;intro aN2 aqQ Cw;refine sa 0 Cw kQ ?_;intro awm Vm;refine zN 4 ?_;have zU:=Vm.drew;refine aU 10 zU [6,5] ?_;refine aW 6 ?_;refine bJ 6 ?_;refine snq 6 E 6 zU kQ ?_;intro aeh Cx;refine dI ?_;refine bJ 7 ?_;refine sn 7 E 5 Cx kQ ?_;intro av6 OG;refine aW 4 ?_;refine zN 2 ?_;refine fK (rs:=[.cell 4 183,.cell 5 54,.tmp 6,.tmp 7]) (vs:=[.agg (dY R.1.ep R.1.nx R.1.gv (.slice awj R.1.ready.length c116) (.slice awk R.1.cZ.length awl) R.1.ws),.agg #[D R.2.1.code,D R.2.1.iD,D R.2.1.PX,D R.2.1.body],.bool R.2.2,D 0]) E ⟨⟨_,E,gD 6 OG E underlying183 E kQ⟩,⟨_,E,gD 5 OG E underlying54 E kQ⟩,E,E,trivial⟩ ?_;have JD:=OG.bq [10,9,8,7,6,5,4,1,0];rw[BO (Q:=⟨ep,nx,gv,rs,ls,W⟩) h0 h1,I];exact⟨awj,c116,awk,awl,E,JD⟩
   refine vv (v:=.func (.func 124) #[pV h 0] #[]) (lY 0 IE E E E E underlying3 underlying227 (zeroValue226 _) dQ E) ?_;refine zN 7 ?_;have Jz:St w.heap.size w w60 [.Oy h (dY ep nx gv (.slice J rs.length M) (.slice O ls.length Z) W) 219,.own 222 2 (.slice J rs.length M) rs.length ((rs).flatMap iT.cells),.own 225 4 (.slice O ls.length Z) ls.length ((ls).flatMap Ls.cells),.loc b51 (sP prog 3 (λy=>if y=4 then some (.func (.func 124) #[pV h 0] #[])else(λy=>if y=3 then some (.func (.func 123) #[pV h 0] #[])else(λy=>if y=2 then some (.func (.func 122) #[pV h 0] #[])else(λy=>if y=1 then some (.func (.func 121) #[pV h 0] #[])else(λ_=>none) y) y) y) y) 4),.Oy b10 #[D 0,D 0,D 0,D 0] 54,.Oy b7 (dY 0 0 0 (.slice none 0 0) (.slice none 0 0) lg) 183,.Oy b4 #[D 4,D (k:Int),D id,D bd,D he,D hn] 49,.Oy b1 (dY ep nx gv (.slice A1 rs.length c1) (.slice A2 ls.length c2) W) 183,.rd 2 A1 rs.length ((rs).flatMap iT.cells),.rd 4 A2 ls.length ((ls).flatMap Ls.cells)]:=IE.re [3,2,1,0,4,5,6,7,8,9] dQ;have HC:=aee (kd:=4) (k:=k) (id:=id) (bd:=bd) (he:=he) (hn:=hn) Jz hk Y Y Y Y (anA hRd) hNd;rw[<-show Qh ⟨ep,nx,gv,rs,ls,W⟩ ⟨4,(k:Int),id,bd,he,hn⟩=GV ⟨ep,nx,gv,rs,ls,W⟩from by simp[Qh]]at HC;obtain⟨R,I⟩:∃R,Qh ⟨ep,nx,gv,rs,ls,W⟩ ⟨4,(k:Int),id,bd,he,hn⟩=R:=⟨_,E⟩;rw[I]at HC;refine yR eQ (HC) ?_;rintro _ aD0 ⟨rfl,akH,akI,aei,aej,Vk⟩;refine⟨_,E,?_⟩;refine zN 3 ?_;refine iU Vk vY ?_;intro aD1 aD2 Cy;refine sa 0 Cy kQ ?_;intro awn QJ;refine zN 4 ?_;have K9:=QJ.drew;refine aU 10 K9 [6,5] ?_;refine aW 6 ?_;refine bJ 6 ?_;refine snq 6 E 6 K9 kQ ?_;intro awo QK;refine dI ?_;refine bJ 7 ?_;refine sn 7 E 5 QK kQ ?_;intro aD3 La;refine aW 4 ?_;refine zN 2 ?_;refine fK (rs:=[.cell 4 183,.cell 5 54,.tmp 6,.tmp 7]) (vs:=[.agg (dY R.1.ep R.1.nx R.1.gv (.slice akH R.1.ready.length akI) (.slice aei R.1.cZ.length aej) R.1.ws),.agg #[D R.2.1.code,D R.2.1.iD,D R.2.1.PX,D R.2.1.body],.bool R.2.2,D 0]) E ⟨⟨_,E,gD 6 La E underlying183 E kQ⟩,⟨_,E,gD 5 La E underlying54 E kQ⟩,E,E,trivial⟩ ?_;have Bq:=La.bq [10,9,8,7,6,5,4,1,0];rw[BO (Q:=⟨ep,nx,gv,rs,ls,W⟩) h0 h1,I];exact⟨akH,akI,aei,aej,E,Bq⟩
  refine zN 2 ?_;refine EG (vv (v:=.agg (dY 0 0 0 (.slice none 0 0) (.slice none 0 0) lg)) yz ?_);refine zN 2 ?_;refine saq 1 Bc kQ ?_;intro aD4 awp;refine sa 0 awp kQ ?_;intro aqR OH;refine zN 6 ?_;refine fK (rs:=[.cell 4 183,.cell 5 54,.tmp 6,.tmp 7]) (vs:=[.agg (dY 0 0 0 (.slice none 0 0) (.slice none 0 0) lg),.agg #[D 0,D 0,D 0,D 0],.bool false,D (bK ⟨kd,pr,id,bd,he,hn⟩)]) E ⟨⟨_,E,gD 1 OH E underlying183 E kQ⟩,⟨_,E,gD 0 OH E underlying54 E kQ⟩,E,E,trivial⟩ ?_;have Zq:=OH.bq [5,4,3,2,1,0];rw[Uh (Q:=⟨ep,nx,gv,rs,ls,W⟩) h0 h1];exact⟨none,0,none,0,E,MR Zq⟩
 refine zN 2 ?_;refine EG (vv (v:=.agg (dY 0 0 0 (.slice none 0 0) (.slice none 0 0) lg)) yz ?_);refine zN 2 ?_;refine saq 1 pz kQ ?_;intro aD5 aqS;refine sa 0 aqS kQ ?_;intro aD6 aek;refine zN 6 ?_;refine fK (rs:=[.cell 4 183,.cell 5 54,.tmp 6,.tmp 7]) (vs:=[.agg (dY 0 0 0 (.slice none 0 0) (.slice none 0 0) lg),.agg #[D 0,D 0,D 0,D 0],.bool false,D (iL ep nx gv rs ls W)]) E ⟨⟨_,E,gD 1 aek E underlying183 E kQ⟩,⟨_,E,gD 0 aek E underlying54 E kQ⟩,E,E,trivial⟩ ?_;have Zr:=aek.bq [5,4,3,2,1,0];rw[O8 (Q:=⟨ep,nx,gv,rs,ls,W⟩) h0];exact⟨none,0,none,0,E,MR Zr⟩
def Lb(e n g:Int)(r l:Value)(W:mM)(a:Value):Array Value:=(D e::D n::D g::r::l::(W.cells++[a])).toArray
section
variable {e n g:Int}{r l a:Value}{W:mM}
def ael:(Lb e n g r l W a).size=42:=rfl
def ahx:∀(j:Nat) (u:Value),(dY e n g r l W).toList[j]? =some u->(Lb e n g r l W a)[0+j]? =some u:=oG (m:=41) E
def anG{h n' g':Int}{I l':Value}{W':mM}:dU (Lb e n g r l W a) 0 (dY h n' g' I l' W').toList=Lb h n' g' I l' W' a:=by
 apply Av.1;rw[jw _ _ _ (by rw[ael];show 0+41<=42;omega)];rfl
end
def rQ(g:Nat)(Q:Qd)(an:List kE)(A1:Option Addr)(c1:Nat)(A2:Option Addr)(c2:Nat)(A3:Option Addr)(c3:Nat)(fs:List OJ):List OJ:=
 (.Oy g (Lb Q.ep Q.nx Q.gv (.slice A1 Q.ready.length c1) (.slice A2 Q.cZ.length c2) Q.ws (.slice A3 an.length c3)) 199)::(.dR 2 A1 Q.ready.length ((Q.ready).flatMap iT.cells))::(.dR 4 A2 Q.cZ.length ((Q.cZ).flatMap Ls.cells))::(.own 54 4 (.slice A3 an.length c3) an.length ((an).flatMap kE.cells))::fs
def anH(B:Nat)(w0:World)(g:Nat)(fs:List OJ)(an:List kE)(r:Qd×kE×Bool×Int)(e:Ending)(w':World):Prop:=
 ((r.2.2.2=0/\r.2.2.1=true)->e=.returned (.bool true)/\ ∃A1 c1 A2 c2 A3 c3,St B w0 w' (rQ g r.1 (an++[r.2.1]) A1 c1 A2 c2 A3 c3 fs))/\(¬(r.2.2.2=0/\r.2.2.1=true)->e=.returned (.bool false)/\St B w0 w' fs)
def ai5(w:World)(r:Qd×List kE×Int)(e:Ending)(w':World):Prop:=
 (r.2.2=0-> ∃g A1 c1 A2 c2 A3 c3,e=.returned (.tuple #[pV g 0,D 0])/\St w.heap.size w w' (rQ g r.1 r.2.1 A1 c1 A2 c2 A3 c3 []))/\(r.2.2≠0->e=.returned (.tuple #[.pointer none,D r.2.2])/\Below w.heap.size w w')
def aaJ(w:World)(r:Qd×List kE×Int)(e:Ending)(w':World):Prop:= ∃A1 c1 A2 c2,
 e=.returned (.tuple #[.agg (dY r.1.ep r.1.nx r.1.gv (.slice A1 r.1.ready.length c1) (.slice A2 r.1.cZ.length c2) r.1.ws),D r.2.2])/\
 St w.heap.size w w' [.dR 2 A1 r.1.ready.length (r.1.ready.flatMap iT.cells),.dR 4 A2 r.1.cZ.length (r.1.cZ.flatMap Ls.cells)]
def XQ(w:World)(r:Qd×List kE×Int)(e:Ending)(w':World):Prop:= ∃A c,
 e=.returned (.tuple #[.slice A r.2.1.length c,D r.2.2])/\St w.heap.size w w' [.dR 4 A r.2.1.length (r.2.1.flatMap kE.cells)]
def aem{B g c1 c2 c3:Nat}{w0 w:World}{fs:List OJ}{A1 A2 A3:Option Addr}{Q:Qd}{an:List kE}{x:Ev}(S:St B w0 w (rQ g Q an A1 c1 A2 c2 A3 c3 fs))(hq:Q.ready.length+Q.cZ.length<=501)(ha:an.length<=2000):
 Calls prog 114 #[pV g 0,.agg #[D x.kind,D x.OU,D x.id,D x.body,D x.OZ,D x.PX]] w (anH B w0 g fs an (jU Q x)):=by
 unfold rQ at S;obtain⟨R,hR⟩:∃R,jU Q x=R:=⟨_,E⟩;refine jc 40 func114 ?_;refine cw [0,1] ?_;refine zN 2 ?_;refine jT S ?_;intro b1 w2 S3;refine zN 3 ?_;refine qb (X:=Nat×Nat×(Option Addr)×Nat×(Option Addr)×Nat) (λM=>[(0,pV g 0),(4,.bool false),(5,pV M.1 0),(6,pV M.2.1 0),(7,.bool R.2.2.1),(8,D R.2.2.2)]) (λM wr=>St B w0 wr ((.Oy M.2.1 #[D R.2.1.code,D R.2.1.iD,D R.2.1.PX,D R.2.1.body] 54)::(.Oy M.1 (dY R.1.ep R.1.nx R.1.gv (.slice M.2.2.1 R.1.ready.length M.2.2.2.1) (.slice M.2.2.2.2.1 R.1.cZ.length M.2.2.2.2.2) R.1.ws) 183)::(.dR 2 M.2.2.1 R.1.ready.length ((R.1.ready).flatMap iT.cells))::(.dR 4 M.2.2.2.2.1 R.1.cZ.length ((R.1.cZ).flatMap Ls.cells))::(.Oy b1 #[D x.kind,D x.OU,D x.id,D x.body,D x.OZ,D x.PX] 49)::(.Oy g (Lb Q.ep Q.nx Q.gv (.slice A1 Q.ready.length c1) (.slice A2 Q.cZ.length c2) Q.ws (.slice A3 an.length c3)) 199)::(.dR 2 A1 Q.ready.length ((Q.ready).flatMap iT.cells))::(.dR 4 A2 Q.cZ.length ((Q.cZ).flatMap Ls.cells))::(.own 54 4 (.slice A3 an.length c3) an.length ((an).flatMap kE.cells))::fs)) ?_ ?_
 ·have S4:=S3.drew;refine aU 17 S4 [] ?_;refine aW 3 ?_;refine ak (v:=.agg (dY Q.ep Q.nx Q.gv (.slice A1 Q.ready.length c1) (.slice A2 Q.cZ.length c2) Q.ws)) 3 E S4 (λ_ Sx8=>(aA E E (fu (cs:=(dY Q.ep Q.nx Q.gv (.slice A1 Q.ready.length c1) (.slice A2 Q.cZ.length c2) Q.ws).toList) (St.rg 1 Sx8 E (ahx))))) ?_;refine dI ?_;refine GL (n:=11) (r:=5) (s:=11) (t:=12) kQ ?_ ?_ ?_
  ·have HD:=λA1 A2 c1 c2 w h1 J=>zq Q.ep Q.nx Q.gv x.kind x.OU x.id x.body x.OZ x.PX A1 A2 c1 c2 Q.ready Q.cZ Q.ws w h1 J hQ hQ;rw[show jU ⟨Q.ep,Q.nx,Q.gv,Q.ready,Q.cZ,Q.ws⟩ ⟨x.kind,x.OU,x.id,x.body,x.OZ,x.PX⟩=R from hR]at HD;refine ku 5 E eQ (HD A1 A2 c1 c2 _ (St.dR 2 S4 E) (St.dR 3 S4 E)) ?_;rintro _ Py ⟨A10,c11,A12,c13,rfl,T16⟩;refine⟨_,E,?_⟩;have kP:=S4.ext T16 E;clear HD;refine aW 6 ?_;refine gL (n:=5) (r:=11) (s:=12) kQ ?_ ?_
   ·refine jm (i:=11) E E (V:=λb=>pV b 0) (row:=dY 0 0 0 (.slice none 0 0) (.slice none 0 0) lg) (t:=183) kP (wn E) E E (gK E (zeroValue183 _) E) ?_;intro b22 Ma l7;refine dI ?_;refine bJ 12 ?_;refine nT 12 E l7 vY ?_;intro b25 Pt vJ;refine dI ?_;refine bJ 13 ?_;refine snq 13 E 1 vJ kQ ?_;intro YQ vT;refine dI ?_;refine bJ 14 ?_;refine sn 14 E 0 vT kQ ?_;intro YM tu;refine aW 4 ?_;refine eO (b22,b25,A10,c11,A12,c13) ?_ uV;exact tu
   refine nT 12 E kP vY ?_;intro b34 w35 vU;refine dI ?_;refine bJ 11 ?_;refine jm (i:=11) E E (V:=λb=>pV b 0) (row:=dY 0 0 0 (.slice none 0 0) (.slice none 0 0) lg) (t:=183) vU (wn E) E E (gK E (zeroValue183 _) E) ?_;intro b37 w38 Co;refine dI ?_;refine bJ 13 ?_;refine snq 13 E 0 Co kQ ?_;intro w40 L9;refine dI ?_;refine bJ 14 ?_;refine sn 14 E 1 L9 kQ ?_;intro YN wO;refine aW 4 ?_;have zf:=wO.fC [8,8,8,8,8,8,8,7,8];refine eO (b37,b34,A10,c11,A12,c13) ?_ uV;exact zf
  ·refine jm (i:=11) E E (V:=λb=>pV b 0) (row:=dY 0 0 0 (.slice none 0 0) (.slice none 0 0) lg) (t:=183) S4 (wn E) E E (gK E (zeroValue183 _) E) ?_;intro b47 YR Z;refine dI ?_;refine gL (n:=10) (r:=5) (s:=12) kQ ?_ ?_
   ·have HD:=λA1 A2 c1 c2 w h1 J=>zq Q.ep Q.nx Q.gv x.kind x.OU x.id x.body x.OZ x.PX A1 A2 c1 c2 Q.ready Q.cZ Q.ws w h1 J hQ hQ;rw[show jU ⟨Q.ep,Q.nx,Q.gv,Q.ready,Q.cZ,Q.ws⟩ ⟨x.kind,x.OU,x.id,x.body,x.OZ,x.PX⟩=R from hR]at HD;refine ku 5 E eQ (HD A1 A2 c1 c2 _ (St.dR 3 Z E) (St.dR 4 Z E)) ?_;rintro _ w54 ⟨A50,c51,A52,c53,rfl,T56⟩;refine⟨_,E,?_⟩;have yL:=Z.ext T56 E;clear HD;refine aW 6 ?_;refine bJ 12 ?_;refine nT 12 E yL vY ?_;intro b62 w63 S64;refine dI ?_;refine bJ 13 ?_;refine snq 13 E 3 S64 kQ ?_;intro w65 Ke;refine dI ?_;refine bJ 14 ?_;refine sn 14 E 0 Ke kQ ?_;intro w67 EL;refine aW 4 ?_;have vS:=EL.fC [8,8,8,8,8,7,7,8,8];refine eO (b47,b62,A50,c51,A52,c53) ?_ uV;exact vS
   refine nT 12 E Z vY ?_;intro b72 w73 QG;refine dI ?_;refine bJ 5 ?_;have HD:=λA1 A2 c1 c2 w h1 J=>zq Q.ep Q.nx Q.gv x.kind x.OU x.id x.body x.OZ x.PX A1 A2 c1 c2 Q.ready Q.cZ Q.ws w h1 J hQ hQ;rw[show jU ⟨Q.ep,Q.nx,Q.gv,Q.ready,Q.cZ,Q.ws⟩ ⟨x.kind,x.OU,x.id,x.body,x.OZ,x.PX⟩=R from hR]at HD;refine ku 5 E eQ (HD A1 A2 c1 c2 _ (St.dR 4 QG E) (St.dR 5 QG E)) ?_;rintro _ w79 ⟨A75,c76,A77,c78,rfl,T81⟩;refine⟨_,E,?_⟩;have Eh:=QG.ext T81 E;clear HD;refine aW 6 ?_;refine bJ 13 ?_;refine snq 13 E 3 Eh kQ ?_;intro w87 Px;refine dI ?_;refine bJ 14 ?_;refine sn 14 E 2 Px kQ ?_;intro w89 S90;refine aW 4 ?_;have Fw:=S90.fC [8,8,8,8,8,6,6,8,8];refine eO (b47,b72,A75,c76,A77,c78) ?_ uV;exact Fw
  refine nT 12 E S4 vY ?_;intro b94 w95 IJ;refine dI ?_;refine gL (n:=10) (r:=5) (s:=11) kQ ?_ ?_
  ·have HD:=λA1 A2 c1 c2 w h1 J=>zq Q.ep Q.nx Q.gv x.kind x.OU x.id x.body x.OZ x.PX A1 A2 c1 c2 Q.ready Q.cZ Q.ws w h1 J hQ hQ;rw[show jU ⟨Q.ep,Q.nx,Q.gv,Q.ready,Q.cZ,Q.ws⟩ ⟨x.kind,x.OU,x.id,x.body,x.OZ,x.PX⟩=R from hR]at HD;refine ku 5 E eQ (HD A1 A2 c1 c2 _ (St.dR 3 IJ E) (St.dR 4 IJ E)) ?_;rintro _ awx ⟨A97,c98,A99,aD7,rfl,aD8⟩;refine⟨_,E,?_⟩;have wh:=IJ.ext aD8 E;clear HD;refine aW 6 ?_;refine bJ 11 ?_;refine jm (i:=11) E E (V:=λb=>pV b 0) (row:=dY 0 0 0 (.slice none 0 0) (.slice none 0 0) lg) (t:=183) wh (wn E) E E (gK E (zeroValue183 _) E) ?_;intro aD9 aEa aer;refine dI ?_;refine bJ 13 ?_;refine snq 13 E 0 aer kQ ?_;intro aes xW;refine dI ?_;refine bJ 14 ?_;refine sn 14 E 3 xW kQ ?_;intro akJ sS;refine aW 4 ?_;have yU:=sS.fC [8,8,8,8,8,7,7,7,8];refine eO (aD9,b94,A97,c98,A99,aD7) ?_ uV;exact yU
  refine jm (i:=11) E E (V:=λb=>pV b 0) (row:=dY 0 0 0 (.slice none 0 0) (.slice none 0 0) lg) (t:=183) IJ (wn E) E E (gK E (zeroValue183 _) E) ?_;intro aEb awy O;refine dI ?_;refine bJ 5 ?_;have HD:=λA1 A2 c1 c2 w h1 J=>zq Q.ep Q.nx Q.gv x.kind x.OU x.id x.body x.OZ x.PX A1 A2 c1 c2 Q.ready Q.cZ Q.ws w h1 J hQ hQ;rw[show jU ⟨Q.ep,Q.nx,Q.gv,Q.ready,Q.cZ,Q.ws⟩ ⟨x.kind,x.OU,x.id,x.body,x.OZ,x.PX⟩=R from hR]at HD;refine ku 5 E eQ (HD A1 A2 c1 c2 _ (St.dR 4 O E) (St.dR 5 O E)) ?_;rintro _ aqT ⟨aEc,aEd,aqU,aqV,rfl,aEe⟩;refine⟨_,E,?_⟩;have Vn:=O.ext aEe E;clear HD;refine aW 6 ?_;refine bJ 13 ?_;refine snq 13 E 2 Vn kQ ?_;intro awz OI;refine dI ?_;refine bJ 14 ?_;refine sn 14 E 3 OI kQ ?_;intro aeu G8;refine aW 4 ?_;have Jz:=G8.fC [8,8,8,8,8,6,6,7,8];refine eO (aEb,b94,aEc,aEd,aqU,aqV) ?_ uV;exact Jz
 rintro⟨aEf,awC,aei,aej,Vo,c146⟩ awD I
 try dsimp only at I
 refine cB (l':=[(0,pV g 0),(4,.bool false),(5,pV aEf 0),(6,pV awC 0),(7,.bool R.2.2.1),(8,D R.2.2.2)]) uV (bH (bH (aL (vm ?_))));by_cases h1:R.2.2.2=0
 ·refine zN 3 ?_
  cases J:R.2.2.1
  ·refine zN 13 ?_;rw[show jU Q x=R from hR];have Cy:=I.bq [8,7,6,5,4,3,2,1,0];exact⟨λh=>av h (λh=>by rw[J]at h;exact av h.2 iQ),λ_=>⟨E,Cy⟩⟩
  refine zN 13 ?_;refine kZ 5 I kQ ?_ (h1:=by exact ML E E) (hs:=by exact anG);intro awn QJ;refine zN 3 ?_;have K9:=QJ.drew;refine gV 11 8 K9 [8] ?_;iterate 6 refine ji ?_
  refine gI (m:=4) (r:=6) kQ ?_;refine o8 (i:=6) E E (V:=λb=>.slice (aD b 0) 1 1) (row:= #[D R.2.1.code,D R.2.1.iD,D R.2.1.PX,D R.2.1.body]) (t:=54) K9 (wn E) E E (bD (vs:=[(0,.agg #[D R.2.1.code,D R.2.1.iD,D R.2.1.PX,D R.2.1.body])]) E zL kQ) ?_;intro aN3 aEg aew;refine ji ?_;refine gI (m:=3) (r:=7) kQ ?_;refine nG (i:=7) E E (news:=[D R.2.1.code,D R.2.1.iD,D R.2.1.PX,D R.2.1.body]) (xs':=(an++[R.2.1]).flatMap kE.cells) 9 aew (wn E) E E E E E E (St.nP (xs:=[D R.2.1.code,D R.2.1.iD,D R.2.1.PX,D R.2.1.body]) 0 aew E E E) underlying160 atm E dQ (dx E) lQ Y (jO (enc:=kE.cells) E E) ?_;intro awE awF awG aKJ aKK Bq;refine ji ?_;refine gF kQ E E E ?_;refine zN 2 ?_;refine kZ (row':=Lb R.1.ep R.1.nx R.1.gv (.slice aei R.1.ready.length aej) (.slice Vo R.1.cZ.length c146) R.1.ws (.slice awE (an.length+1) awF)) 6 Bq kQ ?_;intro aqR OH;refine zQ ?_;refine kC ?_;refine zN 8 ?_;rw[show jU Q x=R from hR];have Zq:=OH.bq [8,7,5,2,1,0];have aqW:=Zq.fC [3,2,2,3];have hal:(an++[R.2.1]).length=an.length+1:=by simp
  refine⟨λ_=>⟨E,aei,aej,Vo,c146,awE,awF,?_⟩,λh=>av ⟨h1,J⟩ h⟩;unfold rQ;rw[hal];exact aqW
 refine zN 16 ?_;rw[show jU Q x=R from hR];have aqS:=I.bq [8,7,6,5,4,3,2,1,0];exact⟨λh=>av h (λh=>h1 h.1),λ_=>⟨E,aqS⟩⟩
def NK{l:List Ev}(h:¬(aM l).2.2=0):(aM l).1=gu/\(aM l).2.1=[]:=by
 by_cases I:2000<l.length
 ·rw[QE I];exact⟨E,E⟩
 cases J:jo gu [] l with
 |none=>rw[MP I J];exact⟨E,E⟩
 |some r=>rw[GY I J]at h;exact av E h
def NM(A:Option Addr)(c:Nat)(l:List Ev)(w:World)(h:Rd w w.heap.size 6 A l.length (bU l))(hl:l.length<=1152921504606846976):
 Calls prog 100 #[.slice A l.length c] w (ai5 w (aM l)):=by
 have S:=(St.start w).dJ h;refine jc 24 func100 ?_;refine cw [0] ?_;refine zN 11 ?_;by_cases h1:2000< (l.length:Int)
 ·refine zN 13 ?_;rw[QE Y];exact⟨λh=>av h dQ,λ_=>⟨E,S.Qe⟩⟩
 refine zN 2 ?_;refine aiB (vv (v:=.agg (Lb 0 0 0 (.slice none 0 0) (.slice none 0 0) lg (.slice none 0 0))) yz ?_);refine jT S ?_;intro b2 w3 S4;refine zN 12 ?_;have S5:=aI (s:=2) (aI (s:=4) (S4.nil 54 4));have S6:St w.heap.size w w3 [_,_,_,_,_]:=S5.re [3,0,1,2,4] dQ;refine iO (X:=Nat×Qd×(List kE)×(Option Addr)×Nat×(Option Addr)×Nat×(Option Addr)×Nat) (λI=>[(2,.pointer none),(3,D 0),(4,pV b2 0),(12,.slice A l.length c),(13,D (l.length:Int)),(14,D (I.1:Int))]) (λI wr=>(I.1<=l.length)/\(jo gu [] l=jo I.2.1 I.2.2.1 (l.drop I.1))/\(I.2.1.ready.length+I.2.1.cZ.length<=501)/\(I.2.2.1.length=I.1)/\St w.heap.size w wr [.Oy b2 (Lb I.2.1.ep I.2.1.nx I.2.1.gv (.slice I.2.2.2.1 I.2.1.ready.length I.2.2.2.2.1) (.slice I.2.2.2.2.2.1 I.2.1.cZ.length I.2.2.2.2.2.2.1) I.2.1.ws (.slice I.2.2.2.2.2.2.2.1 I.2.2.1.length I.2.2.2.2.2.2.2.2)) 199,.dR 2 I.2.2.2.1 I.2.1.ready.length ((I.2.1.ready).flatMap iT.cells),.dR 4 I.2.2.2.2.2.1 I.2.1.cZ.length ((I.2.1.cZ).flatMap Ls.cells),.own 54 4 (.slice I.2.2.2.2.2.2.2.1 I.2.2.1.length I.2.2.2.2.2.2.2.2) I.2.2.1.length ((I.2.2.1).flatMap kE.cells),.rd 6 A l.length ((l).flatMap Ev.cells)]) (λI=>l.length-I.1) (0,gu,[],none,0,none,0,none,0) ?_ ?_ ?_
 ·exact⟨aG _,E,(by simp[gu]),E,S6⟩
 ·exact uV
 rintro⟨k,Q,an,A1,c1,A2,c2,A3,c3⟩ w7 ⟨hi9,M,Vp,awH,S8⟩
 try dsimp only at hi9 M Vp awH S8
 refine cB (l':=[(2,.pointer none),(3,D 0),(4,pV b2 0),(12,.slice A l.length c),(13,D (l.length:Int)),(14,D (k:Int))]) uV (bH (aL ?_));by_cases h13:(k:Int)< (l.length:Int)
 ·refine zN 11 ?_;obtain⟨b14,o15,rfl⟩:=Rd.addr (St.rd 4 S8 E) Y;obtain⟨J,Z⟩:=NA k (St.rd 4 S8 E) Y;refine vv (nC k) ?_;refine vv (aA E E (fu (cs:=Ev.cells J) (Rd.Bb (St.rd 4 S8 E) (λ_ _ h=>dF (enc:=Ev.cells) (sz:=6) (λ_=>E) Z h)))) ?_;refine iU S8 adT ?_;intro b18 J9 tN;refine sa 0 tN kQ ?_;intro Iz l6;refine zN 6 ?_;have xq:St w.heap.size w Iz [_,_,_,_,_,_]:=l6.re [1,2,3,4,0,5] dQ;obtain⟨R,hR⟩:∃R,jU Q J=R:=⟨_,E⟩;have HA:=aem (fs:=[.Oy b18 #[D J.kind,D J.OU,D J.id,D J.body,D J.OZ,D J.PX] 49,.rd 6 (aD b14 o15) l.length ((l).flatMap Ev.cells)]) (x:=J) (show St _ _ _ (rQ _ _ _ _ _ _ _ _ _ _)from xq) Vp Y;rw[hR]at HA;by_cases O:R.2.2.2=0/\R.2.2.1=true
  ·refine dZ eQ (HA.mono λ_ _ h=>h.1 O) ?_;rintro _ QL ⟨rfl,A26,c27,A28,c29,A30,c31,nH⟩;refine⟨_,E,?_⟩;clear HA;refine zN 8 ?_;refine vv (v:=D ((k+1:Nat):Int)) jW ?_;refine zN 2 ?_;have wP:St w.heap.size w QL [_,_,_,_,_]:=nH.re [0,1,2,3,5] dQ;refine dL (k+1,R.1,an++[R.2.1],A26,c27,A28,c29,A30,c31) ?_ uV (by first|omega|(dsimp only;omega));exact⟨uQ,(by dsimp only;rw[M,XL Z (by rw[hR];exact O.1) (by rw[hR];exact O.2),hR]),by dsimp only;exact hR▸ahq (by rw[hR];exact O.1),(by dsimp only;rw[aZ,awH];rfl),wP⟩
  refine dZ eQ (HA.mono λ_ _ h=>h.2 O) ?_;rintro _ w33 ⟨rfl,uy⟩;refine⟨_,E,?_⟩;clear HA;refine zN 17 ?_;rw[MP Y (by rw[M];exact XM Z (by rw[hR];exact O))];exact⟨λh=>av h dQ,λ_=>⟨E,uy.Qe⟩⟩
 refine zN 19 ?_;have L9:St w.heap.size w w7 [_,_,_,_]:=S8.re [0,1,2,3] dQ;rw[GY (r:=(Q,an)) Y (by rw[M];exact aaG Y)];exact⟨λ_=>⟨b2,A1,c1,A2,c2,A3,c3,E,L9⟩,λh=>av E h⟩
def IK(A:Option Addr)(c:Nat)(l:List Ev)(w:World)(h:Rd w w.heap.size 6 A l.length (bU l))(hl:l.length<=1152921504606846976):
 Calls prog 83 #[.slice A l.length c] w (aaJ w (aM l)):=by
 have S:=(St.start w).dJ h;refine jc 19 func83 ?_;refine cw [0] ?_;refine zN 2 ?_;refine nR (V:=λb=>pV b 0) (row:=dY 0 0 0 (.slice none 0 0) (.slice none 0 0) lg) (t:=183) S (wn E) E E (gK E (zeroValue183 _) E) ?_;intro b1 w2 M;refine zN 6 ?_;have HT:=λw h=>NM A c l w h hl;by_cases ht:(aM l).2.2=0
 ·refine dZ eQ ((HT _ (St.rd 1 M E)).mono λ_ _ h=>h.1 ht) ?_;rintro _ w4 ⟨b7,A8,c9,I,J,O,Z,rfl,T6⟩;refine⟨_,E,?_⟩;unfold rQ at T6;have S5:=M.ext T6 E;clear HT T6 M;change St _ _ _ [.Oy b7 (Lb ((aM l).1.ep) ((aM l).1.nx) ((aM l).1.gv) (.slice A8 ((aM l).1.ready.length) c9) (.slice I ((aM l).1.cZ.length) J) ((aM l).1.ws) (.slice O ((aM l).2.1.length) Z)) 199,.dR 2 A8 ((aM l).1.ready.length) (((aM l).1.ready).flatMap iT.cells),.dR 4 I ((aM l).1.cZ.length) (((aM l).1.cZ).flatMap Ls.cells),.own 54 4 (.slice O ((aM l).2.1.length) Z) ((aM l).2.1.length) (((aM l).2.1).flatMap kE.cells),.Oy b1 (dY 0 0 0 (.slice none 0 0) (.slice none 0 0) lg) 183,.rd 6 A l.length ((l).flatMap Ev.cells)]at S5;refine zN 22 ?_;refine vv (aA E E (fu (cs:=(dY ((aM l).1.ep) ((aM l).1.nx) ((aM l).1.gv) (.slice A8 ((aM l).1.ready.length) c9) (.slice I ((aM l).1.cZ.length) J) ((aM l).1.ws)).toList) (St.rg 0 S5 E (ahx)))) ?_;refine saq 4 S5 kQ ?_;intro Py kP;refine zN 5 ?_;have tO:St w.heap.size w Py [_,_]:=kP.re [1,2] dQ;refine⟨A8,c9,I,J,?_,tO⟩;rw[ht];rfl
 refine dZ eQ ((HT _ (St.rd 1 M E)).mono λ_ _ h=>h.2 ht) ?_;rintro _ Pp ⟨rfl,T19⟩;refine⟨_,E,?_⟩;have tq:=M.on T19;clear HT T19 M;change St _ _ _ [.Oy b1 (dY 0 0 0 (.slice none 0 0) (.slice none 0 0) lg) 183,.rd 6 A l.length ((l).flatMap Ev.cells)]at tq;refine zN 13 ?_;refine EG (vv (v:=.agg (dY 0 0 0 (.slice none 0 0) (.slice none 0 0) lg)) yz ?_);refine zQ ?_;refine saq 0 tq kQ ?_;intro w20 xM;refine zN 6 ?_;have l6:=xM.bq [1,0];have hz:=NK ht;refine⟨none,0,none,0,?_,?_⟩
 · rw[hz.1];rfl
 · rw[hz.1];exact MR l6
def adH(A:Option Addr)(c:Nat)(l:List Ev)(w:World)(h:Rd w w.heap.size 6 A l.length (bU l))(hl:l.length<=1152921504606846976):
 Calls prog 72 #[.slice A l.length c] w (XQ w (aM l)):=by
 have S:=(St.start w).dJ h;refine jc 18 func72 ?_;refine cw [0] ?_;refine zN 9 ?_;have HT:=λw h=>NM A c l w h hl;by_cases J:(aM l).2.2=0
 ·refine dZ eQ ((HT _ (St.rd 0 S E)).mono λ_ _ h=>h.1 J) ?_;rintro _ w1 ⟨b4,A5,c6,A7,c8,A9,M,rfl,O⟩;refine⟨_,E,?_⟩;unfold rQ at O;have S2:=S.ext O E;clear HT O S;refine zN 29 ?_;have Z:St w.heap.size w w1 [_]:=S2.re [3] dQ;have sI:=Z.bZ 0 E;refine⟨A9,M,?_,sI⟩;rw[J];rfl
 refine dZ eQ ((HT _ (St.rd 0 S E)).mono λ_ _ h=>h.2 J) ?_;rintro _ Fy ⟨rfl,I⟩;refine⟨_,E,?_⟩;have pz:=S.on I;clear HT I S;refine zN 25 ?_;have tO:=pz.bq [0];have hz:=NK J;refine⟨none,0,?_,?_⟩
 · rw[hz.2];rfl
 · rw[hz.2];exact aI tO
def mY(w:World)(r:bC×Int)(e:Ending)(w':World):Prop:= ∃A c,∃_:r.1.Jp.length<=c,e=.returned (.tuple #[.agg #[D r.1.F9,D r.1.ep,D r.1.fr,D r.1.tg,D r.1.rd,.slice A r.1.Jp.length c],D r.2])/\St w.heap.size w w' [.dR 6 A r.1.Jp.length (bU r.1.Jp)]
def aey(w:World)(r:bC×kE×Bool×Int)(e:Ending)(w':World):Prop:= ∃A c,∃_:r.1.Jp.length<=c,e=.returned (.tuple #[.agg #[D r.1.F9,D r.1.ep,D r.1.fr,D r.1.tg,D r.1.rd,.slice A r.1.Jp.length c],r.2.1.val,.bool r.2.2.1,D r.2.2.2])/\St w.heap.size w w' [.dR 6 A r.1.Jp.length (bU r.1.Jp)]
def VX(w:World)(r:List Ev×Bool×Int)(e:Ending)(w':World):Prop:= ∃A c,∃_:r.1.length<=c,e=.returned (.tuple #[.slice A r.1.length c,.bool r.2.1,D r.2.2])/\St w.heap.size w w' [.dR 6 A r.1.length (bU r.1)]
def VY(w:World)(ro ep fr tg rd:Int)(l:List Ev)(e:Ending)(w':World):Prop:= ∃A c,e=.returned (.agg #[D ro,D ep,D fr,D tg,D rd,.slice A l.length c])/\St w.heap.size w w' [.own 49 6 (.slice A l.length c) l.length (bU l)]
def mZ(n:Int)(w:World):
 Calls tP 73 #[D n] w (Iy w (decide (0<=n/\n<5))):=by
 have S:=St.start w;refine jc 9 func73 ?_;refine cw [0] ?_;refine zN 8 ?_;by_cases h1:0<=n
 ·refine zN 3 ?_;by_cases h:n<5
  ·refine zN 7 ?_;exact⟨reT Y,S.Qe⟩
  refine zN 7 ?_;exact⟨Cj Y,S.Qe⟩
 refine zN 10 ?_;exact⟨Cj Y,S.Qe⟩
def XR(ro ep fr tg rd:Int)(A:Option Addr)(c:Nat)(l:List Ev)(w:World)(h:Rd w w.heap.size 6 A l.length (bU l))(hl:l.length<=1152921504606846976):
 Calls tP 82 #[.agg #[D ro,D ep,D fr,D tg,D rd,.slice A l.length c]] w (Iy w (decide (bL ⟨ro,ep,fr,tg,rd,l⟩))):=by
 have S:=(St.start w).dJ h;refine jc 110 func82 ?_;refine cw [0] ?_;refine zN 2 ?_;refine jT S ?_;intro b1 w2 I;refine zN 8 ?_;by_cases h4:ro=0
 ·refine zN 8 ?_;by_cases h5:0<=ep
  ·refine zN 4 ?_;by_cases h6:ep<=1048576
   ·refine zN 5 ?_;by_cases h7:fr=0
    ·refine zN 5 ?_;by_cases h8:tg=0
     ·refine zN 5 ?_;by_cases h9:rd=0
      ·refine zN 6 ?_;by_cases h10:(l.length:Int)=0
       ·refine zN 8 ?_;exact⟨reT (by unfold bL;dsimp only;omega),I.Qe⟩
       refine zN 8 ?_;exact⟨Cj (by unfold bL;dsimp only;omega),I.Qe⟩
      refine zN 14 ?_;exact⟨Cj (by unfold bL;dsimp only;omega),I.Qe⟩
     refine zN 19 ?_;exact⟨Cj (by unfold bL;dsimp only;omega),I.Qe⟩
    refine zN 24 ?_;exact⟨Cj (by unfold bL;dsimp only;omega),I.Qe⟩
   refine zN 29 ?_;exact⟨Cj (by unfold bL;dsimp only;omega),I.Qe⟩
  refine zN 33 ?_;exact⟨Cj (by unfold bL;dsimp only;omega),I.Qe⟩
 refine zN 11 ?_;by_cases h11:ep<1
 ·refine zN 17 ?_;exact⟨Cj (by unfold bL;dsimp only;omega),I.Qe⟩
 refine zN 4 ?_;by_cases h12:1048576<ep
 ·refine zN 13 ?_;exact⟨Cj (by unfold bL;dsimp only;omega),I.Qe⟩
 refine zN 17 ?_;by_cases h13:ro=1
 ·refine zN 9 ?_;by_cases h14:fr=0
  ·refine zN 4 ?_;by_cases h15:tg=0
   ·refine zN 5 ?_;by_cases h16:rd=0
    ·refine zN 9 ?_;exact⟨reT (by unfold bL;dsimp only;omega),I.Qe⟩
    refine zN 9 ?_;exact⟨Cj (by unfold bL;dsimp only;omega),I.Qe⟩
   refine zN 14 ?_;exact⟨Cj (by unfold bL;dsimp only;omega),I.Qe⟩
  refine zN 18 ?_;exact⟨Cj (by unfold bL;dsimp only;omega),I.Qe⟩
 refine zN 7 ?_;by_cases h17:ro=2
 ·refine zN 9 ?_;by_cases h18:fr=0
  ·refine zN 4 ?_;by_cases J:0<=tg/\tg<5
   ·have aez:=λ(w:World)=>mZ tg w;rw[ko J]at aez;refine Bg eQ (aez _) ?_;rintro _ Iz ⟨rfl,M⟩;refine⟨_,E,?_⟩;have l6:=I.on M;clear M I;refine zN 4 ?_;by_cases Um:0<=rd
    ·refine zN 5 ?_;by_cases xu:rd<=4
     ·refine zN 9 ?_;exact⟨reT (by unfold bL;dsimp only;omega),l6.Qe⟩
     refine zN 9 ?_;exact⟨Cj (by unfold bL;dsimp only;omega),l6.Qe⟩
    refine zN 14 ?_;exact⟨Cj (by unfold bL;dsimp only;omega),l6.Qe⟩
   have awJ:=λ(w:World)=>mZ tg w;rw[jf J]at awJ;refine Bg eQ (awJ _) ?_;rintro _ QF ⟨rfl,O⟩;refine⟨_,E,?_⟩;have vR:=I.on O;clear O I;refine zN 18 ?_;exact⟨Cj (by unfold bL;dsimp only;omega),vR.Qe⟩
  refine zN 23 ?_;exact⟨Cj (by unfold bL;dsimp only;omega),I.Qe⟩
 refine zN 7 ?_;by_cases h30:ro=3
 ·refine zN 9 ?_;by_cases h31:fr=0
  ·refine zN 4 ?_;by_cases Z:0<=tg/\tg<5
   ·have awL:=λ(w:World)=>mZ tg w;rw[ko Z]at awL;refine Bg eQ (awL _) ?_;rintro _ w34 ⟨rfl,awM⟩;refine⟨_,E,?_⟩;have CV:=I.on awM;clear awM I;refine zN 4 ?_;by_cases h37:rd=0
    ·refine zN 9 ?_;exact⟨reT (by unfold bL;dsimp only;omega),CV.Qe⟩
    refine zN 9 ?_;exact⟨Cj (by unfold bL;dsimp only;omega),CV.Qe⟩
   have awN:=λ(w:World)=>mZ tg w;rw[jf Z]at awN;refine Bg eQ (awN _) ?_;rintro _ w39 ⟨rfl,awO⟩;refine⟨_,E,?_⟩;have zh:=I.on awO;clear awO I;refine zN 13 ?_;exact⟨Cj (by unfold bL;dsimp only;omega),zh.Qe⟩
  refine zN 18 ?_;exact⟨Cj (by unfold bL;dsimp only;omega),I.Qe⟩
 refine zN 7 ?_;by_cases h42:ro=4
 ·refine zN 9 ?_;by_cases awP:0<=fr/\fr<5
  ·have awQ:=λ(w:World)=>mZ fr w;rw[ko awP]at awQ;refine dZ eQ (awQ _) ?_;rintro _ w45 ⟨rfl,Zo⟩;refine⟨_,E,?_⟩;have zf:=I.on Zo;clear Zo I;refine zN 3 ?_;by_cases h48:tg=0
   ·refine zN 5 ?_;by_cases h49:rd=0
    ·refine zN 9 ?_;exact⟨reT (by unfold bL;dsimp only;omega),zf.Qe⟩
    refine zN 9 ?_;exact⟨Cj (by unfold bL;dsimp only;omega),zf.Qe⟩
   refine zN 14 ?_;exact⟨Cj (by unfold bL;dsimp only;omega),zf.Qe⟩
  have awR:=λ(w:World)=>mZ fr w;rw[jf awP]at awR;refine dZ eQ (awR _) ?_;rintro _ w51 ⟨rfl,awS⟩;refine⟨_,E,?_⟩;have qO:=I.on awS;clear awS I;refine zN 17 ?_;exact⟨Cj (by unfold bL;dsimp only;omega),qO.Qe⟩
 refine zN 15 ?_;exact⟨Cj (by unfold bL;dsimp only;omega),I.Qe⟩
def fJ(ro ep fr tg rd:Int)(A:Option Addr)(c:Nat)(l:List Ev)(w:World)(h:Rd w w.heap.size 6 A l.length (bU l))(hl:l.length<=1152921504606846976):
 Calls tP 62 #[.agg #[D ro,D ep,D fr,D tg,D rd,.slice A l.length c]] w (Zn w (ay ⟨ro,ep,fr,tg,rd,l⟩)):=by
 have S:=(St.start w).dJ h;refine jc 16 func62 ?_;refine cw [0] ?_;refine zN 2 ?_;refine jT S ?_;intro b1 w2 J;refine zN 7 ?_;have HC:=λ(w:World) (h:Rd w w.heap.size 6 A l.length (bU l))=>XR ro ep fr tg rd A c l w h hl;by_cases hs:bL ⟨ro,ep,fr,tg,rd,l⟩
 ·rw[ko hs]at HC;refine dZ eQ (HC _ (St.rd 1 J E)) ?_;rintro _ w4 ⟨rfl,M⟩;refine⟨_,E,?_⟩;have S5:=J.on M;clear M J;refine zN 11 ?_;refine dZ eQ (IK A c l _ (St.rd 1 S5 E) Y) ?_;rintro _ L6 ⟨A7,c8,A9,c10,rfl,Z⟩;refine⟨_,E,?_⟩;have sI:=S5.ext Z E;refine zN 3 ?_;refine nR (V:=λb=>pV b 0) (row:=dY 0 0 0 (.slice none 0 0) (.slice none 0 0) lg) (t:=183) sI (wn E) E E (gK E (zeroValue183 _) E) ?_;intro b14 NP tO;refine saq 0 tO kQ ?_;intro Pp O;refine zN 6 ?_;by_cases h19:(aM l).2.2=0
  ·refine zN 13 ?_;exact⟨jr (by first|exact(om ‹_› ‹_›).symm|exact(MQ ‹_›).symm|exact(Te (b:=⟨ro,ep,fr,tg,rd,l⟩) ‹_›).symm),O.Qe⟩
  refine zN 12 ?_;exact⟨jr (by first|exact(om ‹_› ‹_›).symm|exact(MQ ‹_›).symm|exact(Te (b:=⟨ro,ep,fr,tg,rd,l⟩) ‹_›).symm),O.Qe⟩
 rw[jf hs]at HC;refine dZ eQ (HC _ (St.rd 1 J E)) ?_;rintro _ w20 ⟨rfl,I⟩;refine⟨_,E,?_⟩;have xM:=J.on I;clear I J;refine zN 12 ?_;exact⟨jr (by first|exact(om ‹_› ‹_›).symm|exact(MQ ‹_›).symm|exact(Te (b:=⟨ro,ep,fr,tg,rd,l⟩) ‹_›).symm),xM.Qe⟩
def auk{l k:List Ev}:l.flatMap Ev.cells++k.flatMap Ev.cells=(l++k).flatMap Ev.cells:=by simp
def oq(A:Option Addr)(n c:Nat)(l:List Value)(w:World)(h:Rd w w.heap.size 6 A n l)(I:∀u∈l,u.oneCell'=true)(Z:n*48<=reachBytes):
 Calls tP 99 #[.slice A n c] w (kS w 49 6 n l):=by
 unfold reachBytes at Z;have S:=(St.start w).dJ h;refine jc 8 func99 ?_;refine cw [0] ?_;refine zN 9 ?_
 cases A with
 |none=>
  obtain⟨rfl,rfl⟩:=K5 h;refine vv (v:=.bool true) (cK E E E (yu underlying40)) ?_;refine zN 11 ?_;exact kS.of (Below.refl _ _) (kH _ _ _ _)
 |some a=>
  refine vv (v:=.bool false) (cK E E E (yu underlying40)) ?_;refine zN 7 ?_;refine uw (V:=λb=>.slice (aD b 0) 0 0) (row:= #[]) (t:=49) (n:=0) (s:=6) (xs:=[]) S (wn E) E E (bD (vs:=[]) E trivial kQ) iQ (aG _) E ?_;intro b1 w2 M;refine zQ ?_;refine eG (news:=l) (xs':=l) 0 M (wn E) E E E E E E (St.rd 1 M E) underlying40 tK E dQ I lQ Y E ?_;intro A4 c5 w6 hc8 BP S7;refine zN 5 ?_;have J:=S7.bq [1];have O:=J.own 0 E;simp only[Nat.zero_add]at O⊢;exact kS.of J.Qe O
def uR(ro ep fr tg rd:Int)(A:Option Addr)(c:Nat)(l:List Ev)(A':Option Addr)(c':Nat)(k:List Ev)(w:World)(h:Rd w w.heap.size 6 A l.length (bU l))(h':Rd w w.heap.size 6 A' k.length (bU k))(hb:(l.length+k.length)*48<=reachBytes):
 Calls tP 71 #[.agg #[D ro,D ep,D fr,D tg,D rd,.slice A l.length c],.slice A' k.length c'] w (VY w ro ep fr tg rd (l++k)):=by
 have S:=((St.start w).dJ h').dJ h;clear h h';unfold reachBytes at hb;refine jc 12 func71 ?_;refine cw [0,1] ?_;refine zN 2 ?_;refine jT S ?_;intro b1 w2 S3;refine iU S3 iN ?_;intro b4 w5 S6;refine zN 6 ?_;refine dZ eQ (oq A l.length c _ _ (St.rd 2 S6 E) (gX l) hQ) ?_;rintro _ L6 ⟨A7,c8,rfl,O,I⟩;refine⟨_,E,?_⟩;have J:=S6.wT O I;refine zQ ?_;refine eG (news:=(k).flatMap Ev.cells) (xs':=(l++k).flatMap Ev.cells) 0 J (wn E) E E E E E E (St.rd 4 J E) underlying40 tK E dQ (gX _) lQ Y (auk) ?_;intro Z c14 NP hc17 hm18 tO;refine zQ ?_;refine J7 2 tO kQ ?_;intro J9 tN;refine zN 5 ?_;refine sa 1 tN kQ ?_;intro Iz l6;refine zN 4 ?_;have M:=l6.bq [4,3,2,1];have hl:(l++k).length=l.length+k.length:=aZ;rw[<-hl]at M;exact⟨Z,c14,by rw[hl];rfl,M⟩
def kK(ro ep fr tg rd:Int)(A:Option Addr)(c:Nat)(l:List Ev)(w:World)(h:Rd w w.heap.size 6 A l.length (bU l))(I:l.length*48<=reachBytes):
 Calls tP 71 #[.agg #[D ro,D ep,D fr,D tg,D rd,.slice A l.length c],.slice none 0 0] w (VY w ro ep fr tg rd l):=by
 have:=uR ro ep fr tg rd A c l none 0 [] w h Rd.Ur (by simpa using I);rw[bI]at this;exact this
end Go.Proofs.YtefabpdniidmbaaGreatDoor
