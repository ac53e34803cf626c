import Derived.Shelf.SlicesG.Cmp
import Derived.Shelf.SlGeneric
import Derived.Ground.SlsfProg
import Derived.Ground.SlgcProg
import Derived.Test.YtceeleolddkibaaGreatDoorG03301
import Derived.Test.YtceeleolddkibaaGreatDoorG45bda
import Derived.Test.YtceeleolddkibaaGreatDoorG5fe45
import Derived.Test.YtceeleolddkibaaGreatDoorGb49f5
import Derived.Test.YtceeleolddkibaaGreatDoorGd9da9
import Derived.Test.YtceeleolddkibaaGreatDoorGf9524
set_option linter.all false
set_option maxRecDepth 100000
set_option maxHeartbeats 8000000
namespace Go.Proofs.YtceeleolddkibaaGreatDoor
open List Nat Go.Proofs.Tryz ChangeShapes WideShapes RowKit
structure iK where
 no:Int
 body:Int
 deriving DecidableEq
structure Ls where
 iB:Int
 Qz:Int
 Vh:iK
 deriving DecidableEq
structure mq where
 a:mX
 b:mX
 c:mX
 d:mX
 deriving DecidableEq
structure Qd where
 ep:Int
 nx:Int
 gv:Int
 ready:List iK
 cB:List Ls
 ws:mq
 deriving DecidableEq
def iK.cells(m:iK):List Value:=[D m.no,D m.body]
def Ls.cells(x:Ls):List Value:=[D x.iB,D x.Qz,D x.Vh.no,D x.Vh.body]
def mq.cells(x:mq):List Value:=x.a.cells++(x.b.cells++(x.c.cells++x.d.cells))
def mq.at(x:mq)(p:Nat):mX:=if p=0 then x.a else if p=1 then x.b else if p=2 then x.c else x.d
def mq.put(x:mq)(p:Nat)(y:mX):mq:=if p=0 then{x with a:=y}else if p=1 then{x with b:=y}else if p=2 then{x with c:=y}else{x with d:=y}
def mq.len(x:mq):x.cells.length=36:=rfl
def mX.len(x:mX):x.cells.length=9:=rfl
def dU(e n g:Int)(r l:Value)(W:mq):Array Value:=(D e::D n::D g::r::l::W.cells).toArray
def kX:mq:=⟨DK,DK,DK,DK⟩
section
variable {e n g:Int}{r l:Value}{W:mq}{ep nx gv p:Int}{rs:List iK}{ls:List Ls}{bd id he hn:Int}{k:Nat}
def Ay:(dU e n g r l W).size=41:=rfl
def Bt:(dU e n g r l W)[0]? =some (D e):=rfl
def DV:(dU e n g r l W)[1]? =some (D n):=rfl
def DW:(dU e n g r l W)[2]? =some (D g):=rfl
def sP:(dU e n g r l W)[3]? =some r:=rfl
def wP:(dU e n g r l W)[4]? =some l:=rfl
def anW:∀(j:Nat) (u:Value),W.cells[j]? =some u->(dU e n g r l W)[5+j]? =some u:=qW (m:=36) E
def anX:∀(j:Nat) (u:Value),(W.at 0).cells[j]? =some u->(dU e n g r l W)[5+j]? =some u:=qW (m:=9) E
def anY:∀(j:Nat) (u:Value),(W.at 1).cells[j]? =some u->(dU e n g r l W)[14+j]? =some u:=qW (m:=9) E
def anZ:∀(j:Nat) (u:Value),(W.at 2).cells[j]? =some u->(dU e n g r l W)[23+j]? =some u:=qW (m:=9) E
def an0:∀(j:Nat) (u:Value),(W.at 3).cells[j]? =some u->(dU e n g r l W)[32+j]? =some u:=qW (m:=9) E
def an1{z:Int}:dP (dU e n g r l W) 0 [D z]=dU z n g r l W:=rfl
def an2{z:Int}:dP (dU e n g r l W) 1 [D z]=dU e z g r l W:=rfl
def acO{z:Int}:dP (dU e n g r l W) 2 [D z]=dU e n z r l W:=rfl
def LK{z:Value}:dP (dU e n g r l W) 3 [z]=dU e n g z l W:=rfl
def LM{z:Value}:dP (dU e n g r l W) 4 [z]=dU e n g r z W:=rfl
def an3{x:mX}:dP (dU e n g r l W) 5 x.cells=dU e n g r l (W.put 0 x):=by
 apply Bc.1;rw[jr _ _ _ (by rw[Ay,mX.len];omega)];rfl
def an4{x:mX}:dP (dU e n g r l W) 14 x.cells=dU e n g r l (W.put 1 x):=by
 apply Bc.1;rw[jr _ _ _ (by rw[Ay,mX.len];omega)];rfl
def an5{x:mX}:dP (dU e n g r l W) 23 x.cells=dU e n g r l (W.put 2 x):=by
 apply Bc.1;rw[jr _ _ _ (by rw[Ay,mX.len];omega)];rfl
def an6{x:mX}:dP (dU e n g r l W) 32 x.cells=dU e n g r l (W.put 3 x):=by
 apply Bc.1;rw[jr _ _ _ (by rw[Ay,mX.len];omega)];rfl
def LP(x:mX):∀u∈x.cells,u.oneCell'=true:=dh E
def aju(x:mq):∀u∈x.cells,u.oneCell'=true:=dh E
def Nq(I:r.oneCell'=true)(J:l.oneCell'=true):∀u∈(dU e n g r l W).toList,u.oneCell'=true:=by
 intro u h;simp only[dU,mem_cons]at h
 rcases h with rfl|rfl|rfl|rfl|rfl|h
 ·rfl
 ·rfl
 ·rfl
 ·exact I
 ·exact J
 exact aju W u h
def ZM(w:World)(k:Int)(e:Ending)(w':World):Prop:=e=.returned (D k)/\Below w.heap.size w w'
def Jl(w:World)(b:Bool)(e:Ending)(w':World):Prop:=e=.returned (.bool b)/\Below w.heap.size w w'
def uZ(nx:Int)(m:iK):Bool:=decide (0<=m.no/\m.no<nx/\0<=m.body/\m.body<=1000000)
def zS{nx:Int}{m:iK}(h:uZ nx m=true):0<=m.no/\m.no<nx/\0<=m.body/\m.body<=1000000:=of_decide_eq_true h
def lW(nx:Int):Int->List iK->Bool
 |_,[]=>true
 |p,m::r=>(uZ nx m&&decide (p<m.no))&&lW nx m.no r
def Pm(ep nx gv p:Int)(x:Ls):Bool:=uZ nx x.Vh&&decide (x.iB=ep/\p<x.Qz/\x.Qz<gv)
def nR(ep nx gv:Int):Int->List Ls->Bool
 |_,[]=>true
 |p,x::r=>Pm ep nx gv p x&&nR ep nx gv x.Qz r
def qE(rs:List iK)(ls:List Ls):List Int:=rs.map (·.no)++ls.map (·.Vh.no)
def VP(ep nx gv:Int)(rs:List iK)(ls:List Ls):Prop:=0<=ep/\ep<=1048576/\0<=nx/\nx<=1073741824/\0<=gv/\gv<=1073741824/\rs.length+ls.length<=500
def CJ(W:mq):Prop:= ∀j,j<4->eT (W.at j)=0
open Classical in
noncomputable def iH(ep nx gv:Int)(rs:List iK)(ls:List Ls)(W:mq):Int:=
 if ¬VP ep nx gv rs ls then 6 else if ¬CJ W then 6 else if lW nx (-1) rs=true/\nR ep nx gv (-1) ls=true/\(qE rs ls).Nodup then 0 else 6
def Fh(h:¬(0<=ep/\ep<=1048576/\0<=nx/\nx<=1073741824/\0<=gv/\gv<=1073741824/\rs.length+ls.length<=500)):iH ep nx gv rs ls W=6:=aj h
def CO(h:¬(CJ W/\lW nx (-1) rs=true/\nR ep nx gv (-1) ls=true/\(qE rs ls).Nodup)):iH ep nx gv rs ls W=6:=by
 unfold iH
 split
 ·rfl
 split
 ·rfl
 rename_i h1 I
 rw[ah (λJ=>h ⟨fM.1 I,J⟩)]
def aur{j:Nat}(I:j<4)(h:eT (W.at j)≠0):iH ep nx gv rs ls W=6:=CO λh1=>h (h1.1 j I)
def azY(I:VP ep nx gv rs ls)(h1:CJ W)(J:lW nx (-1) rs=true)(M:nR ep nx gv (-1) ls=true)(O:(qE rs ls).Nodup):iH ep nx gv rs ls W=0:=by
 unfold iH;rw[ah (λh=>h I),ah (λh=>h h1),aj ⟨J,M,O⟩]
def Nr{k:Nat}{m:iK}(h:rs[k]? =some m):lW nx p (rs.drop k)=((uZ nx m&&decide (p<m.no))&&lW nx m.no (rs.drop (k+1))):=by
 obtain⟨I,J⟩:=cK.1 h;rw[yM I,J];rfl
def Hl{k:Nat}{x:Ls}(h:ls[k]? =some x):nR ep nx gv p (ls.drop k)=(Pm ep nx gv p x&&nR ep nx gv x.Qz (ls.drop (k+1))):=by
 obtain⟨I,J⟩:=cK.1 h;rw[yM I,J];rfl
def Ns{α β:Type}{f:α->β}{l:List α}{k:Nat}{x:α}(h:l[k]? =some x):(l.take k).map f++[f x]=(l.take (k+1)).map f:=by
 rw[mQ,h];simp
def an7(x:mX):eT x=0\/eT x=6:=by unfold eT;split<;>simp
def X9(W:mq)(w:World):(Instr.index 176 (.agg W.cells.toArray) (D 0)).run prog w=.ok (.agg (W.at 0).cells.toArray) w:=kQ
def Ya(W:mq)(w:World):(Instr.index 176 (.agg W.cells.toArray) (D 1)).run prog w=.ok (.agg (W.at 1).cells.toArray) w:=kQ
def Yb(W:mq)(w:World):(Instr.index 176 (.agg W.cells.toArray) (D 2)).run prog w=.ok (.agg (W.at 2).cells.toArray) w:=kQ
def Yc(W:mq)(w:World):(Instr.index 176 (.agg W.cells.toArray) (D 3)).run prog w=.ok (.agg (W.at 3).cells.toArray) w:=kQ
def aa8(W:mq)(k:Nat)(I:k<4)(w:World):(Instr.index 176 (.agg W.cells.toArray) (D k)).run prog w=.ok (.agg (W.at k).cells.toArray) w:=by
 have h:k=0\/k=1\/k=2\/k=3:=Y
 rcases h with rfl|rfl|rfl|rfl
 ·exact X9 W w
 ·exact Ya W w
 ·exact Yb W w
 exact Yc W w
def an8{e n g:Int}{r l:Value}{W:mq}{k:Nat}(I:k<4):∀(j:Nat) (u:Value),(W.at k).cells[j]? =some u->(dU e n g r l W)[5+k*9+j]? =some u:=by
 have h:k=0\/k=1\/k=2\/k=3:=Y
 rcases h with rfl|rfl|rfl|rfl
 ·exact anX
 ·exact anY
 ·exact anZ
 exact an0
def jV{α:Type}{enc:α->List Value}{l l':List α}{x:α}{cs:List Value}(h:l++[x]=l')(he:enc x=cs):l.flatMap enc++cs=l'.flatMap enc:=by
 subst h;subst he;simp
structure kg where
 code:Int
 iB:Int
 Qz:Int
 body:Int
 deriving DecidableEq
def iP:kg:=⟨0,0,0,0⟩
def vQ(k:Int):kg:=⟨k,0,0,0⟩
def kg.cells(a:kg):List Value:=[D a.code,D a.iB,D a.Qz,D a.body]
def kg.val(a:kg):Value:=.agg #[D a.code,D a.iB,D a.Qz,D a.body]
def Et(Q:Qd)(k:Nat)(id bd:Int):Qd×kg×Bool:=
 if (jZ (Q.ws.at k) id).2.2≠0 then(Q,vQ (jZ (Q.ws.at k) id).2.2,false)
 else if (jZ (Q.ws.at k) id).2.1=false then(Q,iP,false)
 else if Q.ready.length+Q.cB.length=500\/Q.nx=1073741824 then(Q,vQ 14,false)
 else(⟨Q.ep,Q.nx+1,Q.gv,Q.ready++[⟨Q.nx,bd⟩],Q.cB,Q.ws.put k (jZ (Q.ws.at k) id).1⟩,iP,true)
def J2(Q:Qd):Qd×kg×Bool:=match Q.ready with
 |[]=>(Q,vQ 10,false)
 |m::rest=>if Q.gv=1073741824 then(Q,vQ 14,false)else(⟨Q.ep,Q.nx,Q.gv+1,rest,Q.cB++[⟨Q.ep,Q.gv,m⟩],Q.ws⟩,⟨0,Q.ep,Q.gv,m.body⟩,true)
def Ip(Q:Qd)(he hn:Int):Qd×kg×Bool:=
 if he≠Q.ep then(Q,vQ 11,false)
 else if (Q.cB.filter λx=>decide (x.Qz≠hn)).length=Q.cB.length then(Q,vQ 7,false)
 else(⟨Q.ep,Q.nx,Q.gv,Q.ready,Q.cB.filter λx=>decide (x.Qz≠hn),Q.ws⟩,iP,true)
def lX(m:iK):List iK->List iK
 |[]=>[m]
 |x::l=>if m.no<x.no then m::x::l else x::lX m l
def Iq(Q:Qd):Qd×kg×Bool:=
 if Q.ep=1048576 then(Q,vQ 14,false)
 else(⟨Q.ep+1,Q.nx,0,Q.cB.foldl (λl x=>lX x.Vh l) Q.ready,[],Q.ws⟩,iP,true)
def an9(h:¬(jZ (W.at k) id).2.2=0):Et ⟨ep,nx,gv,rs,ls,W⟩ k id bd=(⟨ep,nx,gv,rs,ls,W⟩,vQ (jZ (W.at k) id).2.2,false):=aj h
def aoa(h:(jZ (W.at k) id).2.2=0)(h1:(jZ (W.at k) id).2.1=false):Et ⟨ep,nx,gv,rs,ls,W⟩ k id bd=(⟨ep,nx,gv,rs,ls,W⟩,iP,false):=by
 unfold Et;rw[ah (λI=>I h),aj h1]
def WA(h:(jZ (W.at k) id).2.2=0)(h1:(jZ (W.at k) id).2.1=true)(I:rs.length+ls.length=500\/nx=1073741824):Et ⟨ep,nx,gv,rs,ls,W⟩ k id bd=(⟨ep,nx,gv,rs,ls,W⟩,vQ 14,false):=by
 unfold Et;rw[ah (λI=>I h),ah (λJ=>by rw[h1]at J;cases J),aj I]
def aus(h:(jZ (W.at k) id).2.2=0)(h1:(jZ (W.at k) id).2.1=true)(I:¬(rs.length+ls.length=500\/nx=1073741824)):Et ⟨ep,nx,gv,rs,ls,W⟩ k id bd=(⟨ep,nx+1,gv,rs++[⟨nx,bd⟩],ls,W.put k (jZ (W.at k) id).1⟩,iP,true):=by
 unfold Et;rw[ah (λI=>I h),ah (λJ=>by rw[h1]at J;cases J),ah I]
def ajv(h:rs.length=0):J2 ⟨ep,nx,gv,rs,ls,W⟩=(⟨ep,nx,gv,rs,ls,W⟩,vQ 10,false):=by
 cases rs with
 |nil=>rfl
 |cons m r=>simp at h
def ajw(h:¬rs.length=0)(h1:gv=1073741824):J2 ⟨ep,nx,gv,rs,ls,W⟩=(⟨ep,nx,gv,rs,ls,W⟩,vQ 14,false):=by
 cases rs with
 |nil=>simp at h
 |cons m r=>exact aj h1
def aut{m:iK}(h:rs[0]? =some m)(h1:¬gv=1073741824):J2 ⟨ep,nx,gv,rs,ls,W⟩=(⟨ep,nx,gv+1,rs.drop 1,ls++[⟨ep,gv,m⟩],W⟩,⟨0,ep,gv,m.body⟩,true):=by
 cases rs with
 |nil=>simp at h
 |cons m r=>
  simp at h;subst h;exact ah h1
def aeN(h:¬he=ep):Ip ⟨ep,nx,gv,rs,ls,W⟩ he hn=(⟨ep,nx,gv,rs,ls,W⟩,vQ 11,false):=aj h
def ajx(h:he=ep)(h1:(ls.filter λx=>decide (x.Qz≠hn)).length=ls.length):Ip ⟨ep,nx,gv,rs,ls,W⟩ he hn=(⟨ep,nx,gv,rs,ls,W⟩,vQ 7,false):=by
 unfold Ip;rw[ah (λI=>I h),aj h1]
def auu(h:he=ep)(h1:¬(ls.filter λx=>decide (x.Qz≠hn)).length=ls.length):Ip ⟨ep,nx,gv,rs,ls,W⟩ he hn=(⟨ep,nx,gv,rs,ls.filter λx=>decide (x.Qz≠hn),W⟩,iP,true):=by
 unfold Ip;rw[ah (λI=>I h),ah h1]
def ajy(h:ep=1048576):Iq ⟨ep,nx,gv,rs,ls,W⟩=(⟨ep,nx,gv,rs,ls,W⟩,vQ 14,false):=aj h
def auv(h:¬ep=1048576):Iq ⟨ep,nx,gv,rs,ls,W⟩=(⟨ep+1,nx,0,ls.foldl (λl x=>lX x.Vh l) rs,[],W⟩,iP,true):=ah h
end
def aob{e n g:Int}{r l:Value}{W:mq}{x:mX}{k:Nat}(h:k<4):dP (dU e n g r l W) (5+k*9) x.cells=dU e n g r l (W.put k x):=by
 match k,h with
 | 0,_=>exact an3
 | 1,_=>exact an4
 | 2,_=>exact an5
 | 3,_=>exact an6
def Ir(B:Nat)(w0:World)(g:Nat)(fs:List Nf)(r:Qd×kg×Bool)(e:Ending)(w':World):Prop:=
 e=.returned (.tuple #[r.2.1.val,.bool r.2.2])/\ ∃A1 c1 A2 c2,St B w0 w' (.Pj g (dU r.1.ep r.1.nx r.1.gv (.slice A1 r.1.ready.length c1) (.slice A2 r.1.cB.length c2) r.1.ws) 214:: .dB 2 A1 r.1.ready.length (r.1.ready.flatMap iK.cells):: .dB 4 A2 r.1.cB.length (r.1.cB.flatMap Ls.cells)::fs)
section
section
open Go.Shelf Go.RowKit Go.Lib Go.Sort
def Yd:Go.Shelf.Ren:=⟨λ| 6=>125| 15=>130| 14=>129| 28=>140| 29=>141| 20=>132| 21=>133| 22=>134| 23=>135| 24=>136| 25=>137| 26=>138| 27=>139| 46=>143| 47=>144| 48=>145| 49=>146| 50=>147| 57=>148|n=>n,λ| 22=>171| 24=>217| 25=>234| 3=>3| 39=>161| 0=>0| 53=>249| 55=>251| 4=>4| 46=>242| 45=>241| 50=>246| 5=>5| 9=>9| 66=>252| 70=>102| 76=>257| 77=>71|n=>n,λ|n=>n⟩
def acP:Go.Proofs.SlLaysF0.n6 prog Yd:={
 mixed:=kQ
 f6:=⟨Tryz.f125.name,by decide,func125.trans (bM some kQ)⟩
 f14:=⟨Tryz.f129.name,by decide,func129.trans (bM some kQ)⟩
 f15:=func130.trans (bM some kQ)
 f20:=⟨Tryz.f132.name,by decide,Tryz.func132.trans (bM some kQ)⟩
 f21:=⟨Tryz.f133.name,by decide,func133.trans (bM some kQ)⟩
 f22:=⟨Tryz.f134.name,by decide,func134.trans (bM some kQ)⟩
 f23:=⟨Tryz.f135.name,by decide,Tryz.func135.trans (bM some kQ)⟩
 f24:=⟨Tryz.f136.name,by decide,Tryz.func136.trans (bM some kQ)⟩
 f25:=⟨Tryz.f137.name,by decide,Tryz.func137.trans (bM some kQ)⟩
 f26:=⟨Tryz.f138.name,by decide,Tryz.func138.trans (bM some kQ)⟩
 f27:=⟨Tryz.f139.name,by decide,Tryz.func139.trans (bM some kQ)⟩
 f28:=Tryz.func140.trans (bM some kQ)
 f29:=Tryz.func141.trans (bM some kQ)
 f46:=⟨Tryz.f143.name,by decide,Tryz.func143.trans (bM some kQ)⟩
 f47:=Tryz.func144.trans (bM some kQ)
 f48:=Tryz.func145.trans (bM some kQ)
 f49:=⟨Tryz.f146.name,by decide,Tryz.func146.trans (bM some kQ)⟩
 f50:=⟨Tryz.f147.name,by decide,Tryz.func147.trans (bM some kQ)⟩
 f57:=⟨Tryz.f148.name,by decide,Tryz.func148.trans (bM some kQ)⟩
 t0:=Tryz.underlying0
 a0:=Tryz.isAgg0
 z0:=Tryz.sizeOf0
 v0:=Tryz.zeroValue0
 t3:=underlying3
 a3:=Tryz.isAgg3
 z3:=Tryz.sizeOf3
 v3:=zeroValue3
 t4:=underlying4
 a4:=Tryz.isAgg4
 z4:=Tryz.sizeOf4
 v4:=Tryz.zeroValue4
 t5:=underlying5
 a5:=Tryz.isAgg5
 z5:=Tryz.sizeOf5
 v5:=Tryz.zeroValue5
 t9:=Tryz.underlying9
 a9:=Tryz.isAgg9
 z9:=Tryz.sizeOf9
 v9:=Tryz.zeroValue9
 t22:=Tryz.underlying171
 a22:=Tryz.isAgg171
 z22:=Tryz.sizeOf171
 v22:=Tryz.zeroValue171
 t25:=Tryz.underlying234
 a25:=Tryz.isAgg234
 z25:=Tryz.sizeOf234
 v25:=Tryz.zeroValue234
 t39:=Tryz.underlying161
 a39:=Tryz.isAgg161
 z39:=Tryz.sizeOf161
 v39:=Tryz.zeroValue161
 t45:=Tryz.underlying241
 a45:=Tryz.isAgg241
 z45:=Tryz.sizeOf241
 v45:=Tryz.zeroValue241
 t46:=Tryz.underlying242
 a46:=Tryz.isAgg242
 z46:=Tryz.sizeOf242
 v46:=Tryz.zeroValue242
 t50:=Tryz.underlying246
 a50:=Tryz.isAgg246
 z50:=Tryz.sizeOf246
 v50:=Tryz.zeroValue246
 t53:=Tryz.underlying249
 a53:=Tryz.isAgg249
 z53:=Tryz.sizeOf249
 v53:=Tryz.zeroValue249
 t55:=Tryz.underlying251
 a55:=Tryz.isAgg251
 z55:=Tryz.sizeOf251
 v55:=Tryz.zeroValue251
 t66:=Tryz.underlying252
 a66:=Tryz.isAgg252
 z66:=Tryz.sizeOf252
 v66:=Tryz.zeroValue252
 t70:=underlying102
 a70:=Tryz.isAgg102
 z70:=Tryz.sizeOf102
 v70:=Tryz.zeroValue102
 t76:=Tryz.underlying257
 a76:=Tryz.isAgg257
 z76:=Tryz.sizeOf257
 v76:=Tryz.zeroValue257
 t77:=Tryz.underlying71
 a77:=Tryz.isAgg71
 z77:=Tryz.sizeOf71
 v77:=Tryz.zeroValue71}
def aa9:Go.Shelf.Ren:=⟨λ| 5=>131| 7=>142|n=>n,λ| 22=>3| 3=>3| 4=>4|n=>n,λ|n=>n⟩
def auw:Go.Proofs.SlLaysC2.n5 prog aa9:={
 mixed:=kQ
 f5:=⟨Tryz.f131.name,by decide,Tryz.func131.trans (bM some kQ)⟩
 f7:=⟨Tryz.f142.name,by decide,Tryz.func142.trans (bM some kQ)⟩
 t3:=underlying3
 a3:=Tryz.isAgg3
 z3:=Tryz.sizeOf3
 v3:=zeroValue3
 t4:=underlying4
 a4:=Tryz.isAgg4
 z4:=Tryz.sizeOf4
 v4:=Tryz.zeroValue4
 t22:=underlying3
 a22:=Tryz.isAgg3
 z22:=Tryz.sizeOf3
 v22:=zeroValue3}
end
open Go.Shelf
open ChangeAt
open Go.Sort (HoldsK PermIn SortedIn SWO grow)
instance:Inhabited iK:=⟨⟨0,0⟩⟩
def PX(x y:iK):Int:=Lib.compareInt x.no y.no
def alj(x y:iK):ltOf PX x y=decide (x.no<y.no):=by
 unfold ltOf PX Lib.compareInt;by_cases h1:x.no<y.no
 ·simp[h1]
 by_cases h:y.no<x.no<;>simp[h1,h]
def azZ:SWO (ltOf PX) where
 irrefl x:=by rw[alj];simp
 trans x y z h1 h2:=by rw[alj]at*;simp at*;omega
 ntrans x y z h1 h2:=by rw[alj]at*;simp at*;omega
def abb(x y:iK)(W:World):Calls prog 126 #[.agg #[.int .i64 x.no,.int .i64 x.body],.agg #[.int .i64 y.no,.int .i64 y.body]] W λe w'=>e=.returned (.int .i64 (PX x y))/\ ∃q os',w'=grow (W.drewN q) os':=by
 have hcon:=λW'=>AnyG.cmp_Compare_int auw x.no y.no W';change ∀W',Calls prog 131 _ _ _ at hcon;unfold PX;generalize Lib.compareInt x.no y.no=r at hcon⊢
 go_enter func126,Tryz.ntmps126
 go_wp2_with (go_at_call 131;refine(hcon _).mono ?_;rintro e w' ⟨rfl,rfl⟩)
 go_ret
 exact⟨E,0,_,by rw[Go.Sort.alloc_eq_grow,Go.Sort.alloc_eq_grow,Go.Sort.grow_grow];rfl⟩
def auy:∀w,(isAgg 217).run prog w=.ok true w:=by
 intro w;simp[isAgg,run_underlying Tryz.underlying217,Sem.run_bind,Result.andThen]
def aoc:∀w,(Go.sizeOf 217).run prog w=.ok 2 w:=by
 intro w;obtain⟨z,I,hs⟩:∃z,prog.info? 217=some z/\z.size=2:=by
  have h:=apT
  cases hi:prog.info? 217 with
  |none=>simp[hi]at h
  |some z=>exact⟨z,E,by simpa[hi]using h⟩
 simp[sizeOf,typeInfo,I,hs,Sem.run_bind,Result.andThen]
def u6(l:List iK):Prop:=l.Pairwise λa b=>a.no<=b.no
def Ye(A:Option Addr)(c:Nat)(rs:List iK)(w:World){B:Nat}(J:w.ownsRow B 217 2 (.slice A rs.length c) rs.length (rs.flatMap iK.cells))(hl:rs.length<=1000000):
 Calls prog 125 #[.slice A rs.length c,.func (.func 126) #[] #[]] w λe w'=>e=.returned (.tuple #[])/\ ∃d:List iK,d.Perm rs/\u6 d/\
   w'.ownsRow B 217 2 (.slice A rs.length c) rs.length (d.flatMap iK.cells)/\w.grownBy w' (Value.slice A rs.length c).ownBlock:=by
 rcases wD rs.length with M|M
 ·have e0:rs=[]:=qY.1 M;subst e0;refine(AnyF.slices_SortFunc_none acP A c (.func (.func 126) #[] #[]) w).mono ?_;rintro e w' ⟨rfl,rfl⟩;exact⟨E,[],Perm.refl _,Pairwise.nil,J,⟨E,E,E,aB,λ_ _ _=>E⟩⟩
 obtain⟨g,rfl⟩:=zO J M;have hg:g<w.heap.size:=Ig J g E;have hH:=aeh (enc:=iK.cells) (k:=2) (λ_=>E) J E;have I:=AnyQ.slices_SortFunc acP 2 auy aoc iK.cells (λ_=>E) (λx v hv=>by simp[iK.cells]at hv;rcases hv with rfl|rfl<;>rfl) PX azZ 126 #[] g 0 c rs.toArray w eQ (λ_ _ _ _ x y=>abb x y _) hH hg jQ;change Calls prog 125 _ _ _ at I;rw[size_toArray]at I;refine I.mono ?_;rintro e w' ⟨rfl,d',m,os,hp,hs,rfl⟩;obtain⟨p1,_,p3⟩:=hp
 replace p1:d'.size=rs.length:=p1
 obtain⟨q1,q2⟩:=aaM (enc:=iK.cells) (k:=2) (d':=d') (m:=m) (os:=os) (λ_=>E) J p1;refine⟨E,d'.toList,?_,?_,q1,q2⟩
 ·have e1:d'.extract 0 rs.length=d':=by rw[<-p1];exact Array.extract_size
  have e2:rs.toArray.extract 0 rs.length=rs.toArray:=by simp
  rw[e1,e2]at p3;simpa using p3
 unfold u6;rw[GZ];intro i j hi Z O;rw[acn]at hi Z;have h:=hs i j (aC _) O Y;rw[alj,TF d' j Z,TF d' i hi]at h;simp only[Array.getElem_toList];simpa using h
def Ef(m:iK):∀l:List iK,(lX m l).Perm (m::l)
 |[]=>Perm.refl _
 |x::l=>by
  unfold lX
  split
  ·exact Perm.refl _
  exact((Ef m l).cons x).trans (Perm.swap m x l)
def Ox{m:iK}:∀ {l:List iK},u6 l->u6 (lX m l)
 |[],_=>by simp[lX,u6]
 |x::l,h=>by
  obtain⟨h1,M⟩:=yP.1 h;unfold lX
  split
  ·rename_i I
   refine yP.2 ⟨λy J=>?_,h⟩
   rcases iR.1 J with e|e
   ·rw[e];omega
   have:=h1 y e;omega
  rename_i I
  refine yP.2 ⟨λy J=>?_,Ox M⟩
  rcases iR.1 ((Ef m l).mem_iff.1 J)with e|e
  ·rw[e];omega
  exact h1 y e
def J3:∀(ls:List Ls) (rs:List iK),(ls.foldl (λl x=>lX x.Vh l) rs).Perm (rs++ls.map (·.Vh))
 |[],rs=>by simp
 |x::ls,rs=>by
  rw[wJ,DC];refine(J3 ls (lX x.Vh rs)).trans ?_;refine((Ef x.Vh rs).append_right _).trans ?_;rw[wO];exact perm_middle.symm
def WC:∀(ls:List Ls) {rs:List iK},u6 rs->u6 (ls.foldl (λl x=>lX x.Vh l) rs)
 |[],_,h=>h
 |_::ls,_,h=>WC ls (Ox h)
def ajz{rs d:List iK}{ls:List Ls}(Z:d.Perm (rs++ls.map (·.Vh)))(ha:u6 d)(hA:u6 rs)(hN:(qE rs ls).Nodup):d=ls.foldl (λl x=>lX x.Vh l) rs:=by
 have hF:=J3 ls rs;have hnd:((rs++ls.map (·.Vh)).map (·.no)).Nodup:=by
  unfold qE at hN;rw[gX,map_map];exact hN
 refine Perm.eq_of_pairwise (le:=λa b:iK=>a.no<=b.no) (λa b I J h1 h2=>?_) ha (WC ls hA) (Z.trans hF.symm);have m1:=Z.mem_iff.1 I;have m2:=hF.mem_iff.1 J;have e:a.no=b.no:=Y;have:=pairwise_map.1 hnd;obtain⟨i,hi,M⟩:=DX m1;obtain⟨j,hj,O⟩:=DX m2;rw[GZ]at this
 rcases LD i j with h|h|h
 ·exact av (by rw[M,O];exact e) (this i j hi hj h)
 ·subst h;rw[<-M,<-O]
 exact av (by rw[M,O];exact e.symm) (this j i hj hi h)
end
def fU:Qd:=⟨0,0,0,[],[],kX⟩
def Qd.row(Q:Qd)(A1:Option Addr)(c1:Nat)(A2:Option Addr)(c2:Nat):Array Value:=dU Q.ep Q.nx Q.gv (.slice A1 Q.ready.length c1) (.slice A2 Q.cB.length c2) Q.ws
noncomputable def Qd.Vg(Q:Qd):Int:=iH Q.ep Q.nx Q.gv Q.ready Q.cB Q.ws
def QT(Q:Qd)(e:Ev):Qd×kg×Bool:=
 if e.kind=1 then Et Q e.Pv.toNat e.id e.body else if e.kind=2 then J2 Q else if e.kind=3 then Ip Q e.Qs e.Qz else Iq Q
noncomputable def jN(Q:Qd)(e:Ev):Qd×kg×Bool×Int:=
 if Q.Vg≠0 then(fU,iP,false,Q.Vg)else if bJ e≠0 then(fU,iP,false,bJ e)else((QT Q e).1,(QT Q e).2.1,(QT Q e).2.2,0)
def aod(w:World)(r:Qd×kg×Bool×Int)(e:Ending)(w':World):Prop:= ∃A1 c1 A2 c2,e=.returned (.tuple #[.agg (dU r.1.ep r.1.nx r.1.gv (.slice A1 r.1.ready.length c1) (.slice A2 r.1.cB.length c2) r.1.ws),r.2.1.val,.bool r.2.2.1,.int .i64 r.2.2.2])/\
 St w.heap.size w w' [.dB 2 A1 r.1.ready.length (r.1.ready.flatMap iK.cells),.dB 4 A2 r.1.cB.length (r.1.cB.flatMap Ls.cells)]
section
variable {ep nx gv p:Int}{rs:List iK}{ls:List Ls}{W:mq}{Q:Qd}{e:Ev}{an:List kg}{l:List Ev}{k:Nat}
def TU(h:iH ep nx gv rs ls W=0):VP ep nx gv rs ls/\CJ W/\lW nx (-1) rs=true/\nR ep nx gv (-1) ls=true/\(qE rs ls).Nodup:=by
 unfold iH at h
 split at h
 ·cases h
 split at h
 ·cases h
 split at h
 ·rename_i h1 I J
  exact⟨fM.1 h1,fM.1 I,J⟩
 cases h
def ahU:∀ {rs:List iK} {p:Int},lW nx p rs=true->(∀x∈rs,p<x.no)/\rs.Pairwise λa b=>a.no<b.no
 |[],_,_=>⟨λx I=>by simp at I,Pairwise.nil⟩
 |m::r,p,h=>by
  simp only[lW,Bool.and_eq_true,decide_eq_true_eq]at h;obtain⟨⟨_,h1⟩,M⟩:=h;obtain⟨J,O⟩:=ahU M;refine⟨λx I=>?_,yP.2 ⟨J,O⟩⟩
  rcases iR.1 I with rfl|I
  ·exact h1
  exact Ho h1 (J x I)
def aoe(h:lW nx (-1) rs=true):u6 rs:=(ahU h).2.imp λh=>He h
def ahg:∀ {ls:List Ls} {p:Int},nR ep nx gv p ls=true->(∀x∈ls,x.iB=ep/\p<x.Qz)/\ls.Pairwise λa b=>a.Qz<b.Qz
 |[],_,_=>⟨λx I=>by simp at I,Pairwise.nil⟩
 |m::r,p,h=>by
  simp only[nR,Pm,Bool.and_eq_true,decide_eq_true_eq]at h;obtain⟨⟨_,M,h1,_⟩,O⟩:=h;obtain⟨J,Z⟩:=ahg O;refine⟨λx I=>?_,yP.2 ⟨λx I=>(J x I).2,Z⟩⟩
  rcases iR.1 I with rfl|I
  ·exact⟨M,h1⟩
  exact⟨(J x I).1,Ho h1 (J x I).2⟩
def auz(h:nR ep nx gv (-1) ls=true):∀x∈ls,x.iB=ep:=λx I=>((ahg h).1 x I).1
def auA(h:nR ep nx gv (-1) ls=true):∀(i j:Nat) (a b:Ls),ls[i]? =some a->ls[j]? =some b->a.Qz=b.Qz->i=j:=by
 have I:=(ahg h).2;rw[GZ]at I;intro i j a b M O e;obtain⟨hi,rfl⟩:=cK.1 M;obtain⟨J,rfl⟩:=cK.1 O
 rcases LD i j with h1|h1|h1
 ·have:=I i j hi J h1;omega
 ·exact h1
 have:=I j i J hi h1;omega
def aof{e:Ev}(h:bJ e=0):1<=e.kind/\e.kind<=4:=by
 unfold bJ at h
 split at h
 ·cases h
 rename_i h1
 exact fM.1 h1
def acQ{e:Ev}(h:bJ e=0):0<=e.Pv/\e.Pv<=3:=by
 unfold bJ at h
 split at h
 ·cases h
 split at h
 ·cases h
 rename_i h1 O
 split at h
 ·cases h
 split at h
 ·cases h
 rename_i h3 Z
 by_cases J:e.kind=1
 ·have M:=fM.1 (λI=>O ⟨J,I⟩);simp only[Bool.and_eq_true,mo,decide_eq_true_eq]at M;omega
 have M:=fM.1 (λI=>Z ⟨J,I⟩);omega
def PY(h:Q.Vg≠0):jN Q e=(fU,iP,false,Q.Vg):=aj h
def UY(h:Q.Vg=0)(h1:bJ e≠0):jN Q e=(fU,iP,false,bJ e):=by
 unfold jN;rw[ah (λI=>I h),aj h1]
def Cr(h:Q.Vg=0)(h1:bJ e=0):jN Q e=((QT Q e).1,(QT Q e).2.1,(QT Q e).2.2,0):=by
 unfold jN;rw[ah (λI=>I h),ah (λI=>I h1)]
noncomputable def jh:Qd->List kg->List Ev->Option (Qd×List kg)
 |Q,an,[]=>some (Q,an)
 |Q,an,e::r=>if (jN Q e).2.2.2=0/\(jN Q e).2.2.1=true then jh (jN Q e).1 (an++[(jN Q e).2.1]) r else none
noncomputable def aK(l:List Ev):Qd×List kg×Int:=
 if 2000<l.length then(fU,[],1)else match jh fU [] l with
  |some r=>(r.1,r.2,0)
  |none=>(fU,[],3)
def Yf(h:l[k]? =some e)(I:(jN Q e).2.2.2=0)(h1:(jN Q e).2.2.1=true):jh Q an (l.drop k)=jh (jN Q e).1 (an++[(jN Q e).2.1]) (l.drop (k+1)):=by
 obtain⟨J,M⟩:=cK.1 h;rw[yM J,M,jh,aj ⟨I,h1⟩]
def Yg(h:l[k]? =some e)(I:¬((jN Q e).2.2.2=0/\(jN Q e).2.2.1=true)):jh Q an (l.drop k)=none:=by
 obtain⟨J,M⟩:=cK.1 h;rw[yM J,M,jh,ah I]
def abd(h:l.length<=k):jh Q an (l.drop k)=some (Q,an):=by
 rw[sS h];rfl
def Rq(h:2000<l.length):aK l=(fU,[],1):=aj h
def Iu{r:Qd×List kg}(h:¬ 2000<l.length)(h1:jh fU [] l=some r):aK l=(r.1,r.2,0):=by
 unfold aK;rw[ah h,h1]
def Nt(h:¬ 2000<l.length)(h1:jh fU [] l=none):aK l=(fU,[],3):=by
 unfold aK;rw[ah h,h1]
def iX(h:(aK l).2.2=0):l.length<=2000:=by
 unfold aK at h
 split at h
 ·cases h
 omega
def ajA:(QT Q e).1.ready.length+(QT Q e).1.cB.length<=Q.ready.length+Q.cB.length+1:=by
 unfold QT
 split
 ·unfold Et;split; · dsimp only;omega
  split; · dsimp only;omega
  split; · dsimp only;omega
  simp only[length_append,length_cons,length_nil];omega
 split
 ·obtain⟨ep,nx,gv,rs,ls,W⟩:=Q
  cases rs with
  |nil=>simp[J2]
  |cons m r=>simp only[J2];split<;>simp<;>omega
 split
 ·unfold Ip;split; · dsimp only;omega
  split; · dsimp only;omega
  have:=length_filter_le (λx:Ls=>decide (x.Qz≠e.Qz)) Q.cB;simp only;omega
 unfold Iq;split; · dsimp only;omega
 have h:=(J3 Q.cB Q.ready).length_eq;rw[aY,gK]at h;simp only[length_nil];omega
def ahV(h:(jN Q e).2.2.2=0):(jN Q e).1.ready.length+(jN Q e).1.cB.length<=501:=by
 by_cases I:Q.Vg=0
 ·by_cases h1:bJ e=0
  ·rw[Cr I h1];have J:=(TU I).1;unfold VP at J;have:=ajA (Q:=Q) (e:=e);simp only;omega
  rw[UY I h1];simp[fU]
 rw[PY I];simp[fU]
def Gp:∀ {l:List Ev} {Q:Qd} {an:List kg} {r:Qd×List kg},Q.ready.length+Q.cB.length<=501->jh Q an l=some r->r.1.ready.length+r.1.cB.length<=501/\r.2.length=an.length+l.length
 |[],Q,an,r,hQ,h=>by
  simp only[jh,Option.some.injEq]at h;subst h;exact⟨hQ,by simp⟩
 |e::l,Q,an,r,hQ,h=>by
  rw[jh]at h
  split at h
  ·rename_i I
   obtain⟨h1,J⟩:=Gp (ahV I.1) h;exact⟨h1,by rw[J];simp;omega⟩
  cases h
def abe:(aK l).1.ready.length+(aK l).1.cB.length<=501:=by
 unfold aK
 split
 ·simp[fU]
 split
 ·rename_i r h
  exact(Gp (by simp[fU]) h).1
 simp[fU]
end
structure bF where
 GR:Int
 ep:Int
 fr:Int
 tg:Int
 rd:Int
 JU:List Ev
 deriving DecidableEq
def bV:bF:=⟨0,0,0,0,0,[]⟩
def bC:Ev:=⟨4,0,0,0,0,0⟩
def bP(b:bF):Prop:=(b.GR=0/\0<=b.ep/\b.ep<=1048576/\b.fr=0/\b.tg=0/\b.rd=0/\b.JU.length=0)\/(1<=b.ep/\b.ep<=1048576/\
 ((b.GR=1/\b.fr=0/\b.tg=0/\b.rd=0)\/(b.GR=2/\b.fr=0/\0<=b.tg/\b.tg<5/\0<=b.rd/\b.rd<=4)\/(b.GR=3/\b.fr=0/\0<=b.tg/\b.tg<5/\b.rd=0)\/(b.GR=4/\0<=b.fr/\b.fr<5/\b.tg=0/\b.rd=0)))
instance (b:bF):Decidable (bP b):=by unfold bP;exact inferInstance
open Classical in
noncomputable def aA(b:bF):Int:=if bP b/\(aK b.JU).2.2=0 then 0 else 6
section
variable {b:bF}{P:Program}{w:World}{t e:TypeId}{xo yo:Operand}
def oh(h:bP b)(h1:(aK b.JU).2.2=0):aA b=0:=aj ⟨h,h1⟩
def Nu(h:¬bP b):aA b=6:=ah λh1=>h h1.1
def TV(h:¬(aK b.JU).2.2=0):aA b=6:=ah λh1=>h h1.2
def gB(h:aA b=0):bP b/\(aK b.JU).2.2=0:=by
 unfold aA at h
 split at h
 ·assumption
 cases h
noncomputable def jd(b:bF)(e:Ev):bF×kg×Bool×Int:=
 if aA b≠0 then(bV,iP,false,aA b)else if bJ e≠0 then(bV,iP,false,bJ e)else if e.kind=4 then(bV,iP,false,3)
 else if b.GR=3 then(b,vQ 12,false,0)else if b.GR≠1/\b.GR≠2 then(b,vQ 7,false,0)
 else if (jN (aK b.JU).1 e).2.2.1=false then(b,(jN (aK b.JU).1 e).2.1,false,0)
 else if 1999<=b.JU.length then(b,vQ 14,false,0)else({b with JU:=b.JU++[e]},(jN (aK b.JU).1 e).2.1,true,0)
noncomputable def jR(b:bF)(ep:Int):bF×Int:=
 if aA b≠0 then(bV,aA b)else if ¬(1<=ep/\ep<=1048576)then(bV,2)else if b.GR≠0 then(bV,8)else if ep<=b.ep then(bV,15)else(⟨1,ep,0,0,0,[]⟩,0)
noncomputable def wh(b:bF)(tg:Int):bF×Int:=
 if aA b≠0 then(bV,aA b)else if ¬(0<=tg/\tg<=4)then(bV,2)else if b.GR=2\/b.GR=3 then(bV,12)else if b.GR≠1 then(bV,7)
 else if b.ep=1048576 then(bV,14)else(⟨2,b.ep,0,tg,0,b.JU⟩,0)
noncomputable def bX(b:bF)(hv:Int):bF×Int:=
 if aA b≠0 then(bV,aA b)else if b.GR≠2/\b.GR≠3 then(bV,7)else if ¬(0<=hv/\hv<=b.JU.length)then(bV,2)
 else if b.GR=3 then(b,0)else if hv=b.JU.length\/b.rd=4 then({b with GR:=3,rd:=0},0)else({b with rd:=b.rd+1},0)
noncomputable def ji(b:bF)(hv:Int):List Ev×Bool×Int:=
 if aA b≠0 then([],false,aA b)else if b.GR≠2/\b.GR≠3 then([],false,7)else if ¬(0<=hv/\hv<=b.JU.length)then([],false,2)
 else((b.JU.drop hv.toNat).take 3,decide (b.GR=3/\b.JU.length<=hv.toNat+3),0)
noncomputable def dR(b:bF)(ep fr:Int):bF×Int:=
 if aA b≠0 then(bV,aA b)else if ¬(1<=ep/\ep<=1048576/\0<=fr/\fr<=4)then(bV,2)else if b.GR≠0/\b.GR≠4 then(bV,8)
 else if b.GR=4/\b.ep=ep/\b.fr=fr then(b,0)else if ep<=b.ep then(bV,15)else(⟨4,ep,fr,0,0,[]⟩,0)
noncomputable def dM(b:bF)(ep at_:Int)(l:List Ev)(last:Bool):bF×Int:=
 if aA b≠0 then(bV,aA b)else if b.GR≠4 then(bV,7)else if b.ep≠ep then(bV,15)else if ¬(0<=at_/\at_<=b.JU.length)then(bV,2)
 else if ¬(b.JU.drop at_.toNat).take l.length=l.take (b.JU.length-at_.toNat)then(bV,3)
 else if last=true/\at_.toNat+l.length<b.JU.length then(bV,3)
 else if aA (if last=true then⟨1,ep,0,0,0,b.JU++l.drop (b.JU.length-at_.toNat)++[bC]⟩else{b with JU:=b.JU++l.drop (b.JU.length-at_.toNat)})≠0 then(bV,3)
 else(if last=true then⟨1,ep,0,0,0,b.JU++l.drop (b.JU.length-at_.toNat)++[bC]⟩else{b with JU:=b.JU++l.drop (b.JU.length-at_.toNat)},0)
noncomputable def gZ(b:bF)(ep:Int):bF×Int:=
 if aA b≠0 then(bV,aA b)else if b.GR≠3 then(bV,7)else if ep<=b.ep then(bV,15)else(⟨0,b.ep,0,0,0,[]⟩,0)
noncomputable def gU(b:bF):bF×Int:=
 if aA b≠0 then(bV,aA b)else if b.GR≠1/\b.GR≠2 then(b,0)
 else if aA ⟨1,b.ep,0,0,0,b.JU++[bC]⟩≠0 then(bV,14)else(⟨1,b.ep,0,0,0,b.JU++[bC]⟩,0)
def mW{α:Type}{a b:α}(h:a=b:=by(repeat' (first|rfl|omega|split))<;>(simp only[Prod.mk.injEq,bF.mk.injEq,and_true,true_and,and_self];omega)):a=b:=h
instance:Au iK where
 size:=2
 UA m:=[m.no,m.body]
 of xs:=⟨xs.getD 0 0,xs.getD 1 0⟩
 pos:=by decide
 len _:=rfl
 inv xs h:=by
  match xs,h with
  |[a,b],_=>rfl
instance:Au Ls where
 size:=4
 UA m:=[m.iB,m.Qz,m.Vh.no,m.Vh.body]
 of xs:=⟨xs.getD 0 0,xs.getD 1 0,⟨xs.getD 2 0,xs.getD 3 0⟩⟩
 pos:=by decide
 len _:=rfl
 inv xs h:=by
  match xs,h with
  |[a,b,c,d],_=>rfl
def ajB(l:List iK):∀u∈l.flatMap iK.cells,u.oneCell'=true:=Cm l
def acR(l:List Ls):∀u∈l.flatMap Ls.cells,u.oneCell'=true:=Cm l
def yQ{A:Option Addr}{n c:Nat}(h:P.underlying t=some (.slice e)):(do eqGuard .eql t xo yo (.slice A n c) (.slice none 0 0);binOp .eql t (.slice A n c) (.slice none 0 0):Sem Value).run P w=.ok (.bool A.isNone) w:=by
 rw[Sem.run_bind,show(eqGuard .eql t xo yo (.slice A n c) (.slice none 0 0)).run P w=.ok () w from E];exact Lib.run_eql_slice_nil w t e A n c 0 0 h
end
def LQ{w:World}{B s n:Nat}{xs:List Value}(h:Rd w B s none n xs):n=0/\xs=[]:=by
 have h1:n=0:=by
  rcases wD n with I|I
  ·exact I
  obtain⟨b,off,e,_⟩:=h.2 I
  cases e
 subst h1;exact⟨E,GJ (by have:=h.1;omega)⟩
def ahX(A:Option Addr)(n c:Nat)(l:List Value)(w:World)(h:Rd w w.heap.size 2 A n l)(I:∀u∈l,u.oneCell'=true)(Z:n*16<=reachBytes):
 Calls prog 113 #[.slice A n c] w (kK w 217 2 n l):=by
 unfold reachBytes at Z;have S:=(St.start w).dG h;refine iW 8 func113 ?_;refine cw [0] ?_;refine zN 9 ?_
 cases A with
 |none=>
  obtain⟨rfl,rfl⟩:=LQ h;refine vv (v:=.bool true) (cO E E E (yQ Tryz.underlying171)) ?_;refine zN 11 ?_;exact kK.of (Below.refl _ _) (kC _ _ _ _)
 |some a=>
  refine vv (v:=.bool false) (cO E E E (yQ Tryz.underlying171)) ?_;refine zN 7 ?_;refine uL (V:=λb=>.slice (aD b 0) 0 0) (row:= #[]) (t:=217) (n:=0) (s:=2) (xs:=[]) S (wn E) E E (bq (vs:=[]) E trivial kQ) iQ (aC _) E ?_;intro b1 w2 M;refine zQ ?_;refine eu (news:=l) (xs':=l) 0 M (wn E) E E E E E E (St.rd 1 M E) Tryz.underlying171 Y4 E dQ I lQ Y E ?_;intro A4 c5 w6 hc8 Ct S7;refine zN 5 ?_;have J:=S7.bg [1];have O:=J.own 0 E;simp only[Nat.zero_add]at O⊢;exact kK.of J.QM O
def ahY(A:Option Addr)(n c:Nat)(l:List Value)(w:World)(h:Rd w w.heap.size 4 A n l)(I:∀u∈l,u.oneCell'=true)(Z:n*32<=reachBytes):
 Calls prog 114 #[.slice A n c] w (kK w 220 4 n l):=by
 unfold reachBytes at Z;have S:=(St.start w).dG h;refine iW 8 func114 ?_;refine cw [0] ?_;refine zN 9 ?_
 cases A with
 |none=>
  obtain⟨rfl,rfl⟩:=LQ h;refine vv (v:=.bool true) (cO E E E (yQ underlying172)) ?_;refine zN 11 ?_;exact kK.of (Below.refl _ _) (kC _ _ _ _)
 |some a=>
  refine vv (v:=.bool false) (cO E E E (yQ underlying172)) ?_;refine zN 7 ?_;refine uL (V:=λb=>.slice (aD b 0) 0 0) (row:= #[]) (t:=220) (n:=0) (s:=4) (xs:=[]) S (wn E) E E (bq (vs:=[]) E trivial kQ) iQ (aC _) E ?_;intro b1 w2 M;refine zQ ?_;refine eu (news:=l) (xs':=l) 0 M (wn E) E E E E E E (St.rd 1 M E) underlying172 ahK E dQ I lQ Y E ?_;intro A4 c5 w6 hc8 Ct S7;refine zN 5 ?_;have J:=S7.bg [1];have O:=J.own 0 E;simp only[Nat.zero_add]at O⊢;exact kK.of J.QM O
def FZ(e nx g:Int)(r l:Value)(W:mq)(m:iK)(w:World):
 Calls prog 120 #[.agg (dU e nx g (r) (l) W),.agg #[D m.no,D m.body]] w (Jl w (uZ nx m)):=by
 have S:=St.start w;refine iW 25 func120 ?_;refine cw [0,1] ?_;refine zN 2 ?_;refine jM S ?_;intro b1 O J;refine jM J ?_;intro b4 Z I;refine zN 7 ?_;by_cases h7:0<=m.no
 ·refine zN 5 ?_;refine vg (ay E E (aV (St.cl 1 I E DV))) ?_;by_cases h8:m.no<nx
  ·refine zN 5 ?_;by_cases h9:0<=m.body
   ·refine zN 5 ?_;by_cases M:m.body<=1000000
    ·refine zN 7 ?_;refine⟨?_,I.QM⟩;rw[show uZ nx m=true from jU ⟨‹_›,‹_›,‹_›,‹_›⟩];rfl
    refine zN 7 ?_;refine⟨?_,I.QM⟩;rw[show uZ nx m=false from jc (λh=>av h.2.2.2 ‹_›)];rfl
   refine zN 12 ?_;refine⟨?_,I.QM⟩;rw[show uZ nx m=false from jc (λh=>av h.2.2.1 ‹_›)];rfl
  refine zN 17 ?_;refine⟨?_,I.QM⟩;rw[show uZ nx m=false from jc (λh=>av h.2.1 ‹_›)];rfl
 refine zN 23 ?_;refine⟨?_,I.QM⟩;rw[show uZ nx m=false from jc (λh=>av h.1 ‹_›)];rfl
def ahZ(ep nx gv:Int)(A1 A2:Option Addr)(c1 c2:Nat)(rs:List iK)(ls:List Ls)(W:mq)(w:World)(h1:Rd w w.heap.size 2 A1 rs.length (rs.flatMap iK.cells))(h2:Rd w w.heap.size 4 A2 ls.length (ls.flatMap Ls.cells))(hb1:rs.length*16<=reachBytes)(hb2:ls.length*32<=reachBytes):
 Calls prog 112 #[.agg (dU ep nx gv (.slice A1 rs.length c1) (.slice A2 ls.length c2) W)] w (ZM w (iH ep nx gv rs ls W)):=by
 unfold reachBytes at hb1 hb2;have S:=((St.start w).dG h2).dG h1;refine iW 140 func112 ?_;refine cw [0] ?_;refine zN 2 ?_;refine jM S ?_;intro b1 w2 Z;refine zN 7 ?_;refine vv (ay E E (aV (St.cl 0 Z E Bt))) ?_;by_cases h4:ep<0
 ·refine zN 47 ?_;exact⟨jl (Fh Y).symm,Z.QM⟩
 refine zN 3 ?_;refine vg (ay E E (aV (St.cl 0 Z E Bt))) ?_;by_cases h5:1048576<ep
 ·refine zN 43 ?_;exact⟨jl (Fh Y).symm,Z.QM⟩
 refine zN 4 ?_;refine vg (ay E E (aV (St.cl 0 Z E DV))) ?_;by_cases h6:nx<0
 ·refine zN 38 ?_;exact⟨jl (Fh Y).symm,Z.QM⟩
 refine zN 4 ?_;refine vg (ay E E (aV (St.cl 0 Z E DV))) ?_;by_cases h7:1073741824<nx
 ·refine zN 33 ?_;exact⟨jl (Fh Y).symm,Z.QM⟩
 refine zN 4 ?_;refine vg (ay E E (aV (St.cl 0 Z E DW))) ?_;by_cases h8:gv<0
 ·refine zN 28 ?_;exact⟨jl (Fh Y).symm,Z.QM⟩
 refine zN 4 ?_;refine vg (ay E E (aV (St.cl 0 Z E DW))) ?_;by_cases h9:1073741824<gv
 ·refine zN 23 ?_;exact⟨jl (Fh Y).symm,Z.QM⟩
 refine zN 4 ?_;refine vg (ay E E (aV (St.cl 0 Z E sP))) ?_;refine zN 2 ?_;refine vg (ay E E (aV (St.cl 0 Z E wP))) ?_;refine zQ ?_;refine vg (v:=D ((rs.length+ls.length:Nat):Int)) jB ?_;by_cases h10:500< ((rs.length+ls.length:Nat):Int)
 ·refine zN 13 ?_;exact⟨jl (Fh Y).symm,Z.QM⟩
 refine zN 11 ?_;refine vv (ay E E (eZ (cs:=(W.cells)) (St.rg 0 Z E (anW)))) ?_;refine zN 4 ?_;refine fV (X:=Nat) (λI=>[(1,pV b1 0),(2,D 0),(51,.agg ((W.cells).toArray)),(52,D (I:Int))]) (λI wr=>(I<=4)/\(∀j,j<I->eT (W.at j)=0)/\St w.heap.size w wr [.Pj b1 (dU ep nx gv (.slice A1 rs.length c1) (.slice A2 ls.length c2) W) 178,.rd 2 A1 rs.length ((rs).flatMap iK.cells),.rd 4 A2 ls.length ((ls).flatMap Ls.cells)]) (λI=>4-I) (0) ?_ ?_ ?_
 ·exact⟨aC _,λj hj=>av hj (G9 _),Z⟩
 ·exact lS
 rintro k KM ⟨ari,Pn,rA⟩
 try dsimp only at ari Pn rA
 refine bK (l':=[(1,pV b1 0),(2,D 0),(51,.agg ((W.cells).toArray)),(52,D (k:Int))]) lS (aX (aH ?_));by_cases h15:(k:Int)<4
 ·refine zN 11 ?_;refine vv (v:=.agg (((W.at k).cells).toArray)) (amM E E E (aa8 W k Y _)) ?_;refine iL rA arh ?_;intro b16 Qh uD;refine stA 0 uD kQ ?_ (h1:=LP _);intro J4 sU;refine zN 5 ?_;refine Vm eQ sU (Je (W.at k) _) ?_;intro Jm lY;refine zN 6 ?_;by_cases U3:eT (W.at k)=0
  ·refine zN 8 ?_;refine vv (v:=D ((k+1:Nat):Int)) jB ?_;refine zN 2 ?_;have nC:=lY.bg [0];refine bQ (k+1) ?_ lS (by first|omega|(dsimp only;omega));exact⟨Y,(λj hj=>(sO.1 hj).elim (λh=>Pn j h) (λh=>by rw[h];exact U3)),nC⟩
  refine zN 17 ?_;refine⟨jl ?_,lY.QM⟩;rw[aur (j:=k) Y U3];exact(an7 _).resolve_left U3
 refine zN 12 ?_;refine aaN (k:=3) rA (wn E) E E E ?_;intro b26 Rs wm;have aDl:CJ W:=λj hj=>Pn j Y;refine zN 12 ?_;refine vv (ay E E (aV (St.cl 1 wm E sP))) ?_;refine zN 5 ?_;refine fV (X:=Nat×Int) (λI=>[(1,pV b1 0),(2,D 0),(6,.map (some b26)),(7,D I.2),(63,.slice A1 rs.length c1),(64,D (rs.length:Int)),(65,D (I.1:Int))]) (λI wr=>(I.1<=rs.length)/\(lW nx (-1) rs=lW nx I.2 (rs.drop I.1))/\St w.heap.size w wr [.loc b26 (Pg prog 3 ((rs.take I.1).map (·.no))),.Pj b1 (dU ep nx gv (.slice A1 rs.length c1) (.slice A2 ls.length c2) W) 178,.rd 2 A1 rs.length ((rs).flatMap iK.cells),.rd 4 A2 ls.length ((ls).flatMap Ls.cells)]) (λI=>rs.length-I.1) (0,-1) ?_ ?_ ?_
 ·exact⟨aC _,E,wm⟩
 ·exact FX
 rintro⟨k,p⟩ Za ⟨LU,Iw,tN⟩
 try dsimp only at LU Iw tN
 refine bK (l':=[(1,pV b1 0),(2,D 0),(6,.map (some b26)),(7,D p),(63,.slice A1 rs.length c1),(64,D (rs.length:Int)),(65,D (k:Int))]) FX (aX (aH ?_));by_cases h34:(k:Int)< (rs.length:Int)
 ·refine zN 11 ?_;obtain⟨b35,o36,rfl⟩:=Rd.addr (St.rd 2 tN E) Y;obtain⟨WE,hx38⟩:=GX k (St.rd 2 tN E) Y;refine vv (mY k) ?_;refine vv (ay E E (eZ (cs:=iK.cells WE) (Rd.Al (St.rd 2 tN E) (λ_ _ h=>dw (enc:=iK.cells) (sz:=2) (λ_=>E) hx38 h)))) ?_;refine iL tN aDh ?_;intro b39 w40 J5;refine sa 0 J5 kQ ?_;intro WG vU;refine zN 7 ?_;refine eB eQ (FZ ep nx gv _ _ W WE _) ?_;rintro _ U4 ⟨rfl,aDm⟩;refine⟨_,E,?_⟩;have tO:=vU.on aDm
  cases ZN:(uZ nx WE)
  ·refine zN 23 ?_;exact⟨jl (CO λh=>by rw[Iw,Nr hx38,ZN]at h;exact av h.2.1 iQ).symm,tO.QM⟩
  have aJv:=zS ZN;refine zN 5 ?_;by_cases h49:p<WE.no
  ·refine zN 18 ?_;refine vv (v:=.agg #[]) yz ?_;refine Q7 (z:=WE.no) 1 tO (wn E) E E E E E E underlying3 underlying225 Y (by simp[maxLen];omega) ?_;intro Zb yh;rw[Ns (f:=λm:iK=>m.no) hx38]at yh;refine zN 4 ?_;refine vv (v:=D ((k+1:Nat):Int)) jB ?_;refine zN 2 ?_;have Az:=yh.bg [0];refine bQ (k+1,WE.no) ?_ FX (by first|omega|(dsimp only;omega));exact⟨uQ,(by dsimp only;rw[Iw,Nr hx38,ZN,jU h49];rfl),Az⟩
  refine zN 18 ?_;exact⟨jl (CO λh=>by rw[Iw,Nr hx38,jc h49]at h;exact av h.2.1 iQ).symm,tO.QM⟩
 refine zN 19 ?_;refine vv (ay E E (aV (St.cl 1 tN E wP))) ?_;refine zN 5 ?_;have aDn:lW nx (-1) rs=true:=by rw[Iw,GL Y];rfl
 have zh:=tN;rw[jE (show rs.length<=k by omega)]at zh;rw[<-bI (rs.map (·.no))]at zh;refine fV (X:=Nat×Int) (λI=>[(1,pV b1 0),(2,D 0),(6,.map (some b26)),(7,D I.2),(87,.slice A2 ls.length c2),(88,D (ls.length:Int)),(89,D (I.1:Int))]) (λI wr=>(I.1<=ls.length)/\(nR ep nx gv (-1) ls=nR ep nx gv I.2 (ls.drop I.1))/\St w.heap.size w wr [.loc b26 (Pg prog 3 (rs.map (·.no)++(ls.take I.1).map (·.Vh.no))),.Pj b1 (dU ep nx gv (.slice A1 rs.length c1) (.slice A2 ls.length c2) W) 178,.rd 2 A1 rs.length ((rs).flatMap iK.cells),.rd 4 A2 ls.length ((ls).flatMap Ls.cells)]) (λI=>ls.length-I.1) (0,-1) ?_ ?_ ?_
 ·exact⟨aC _,E,zh⟩
 ·exact FX
 rintro⟨k,p⟩ w56 ⟨aDo,J,yR⟩
 try dsimp only at aDo J yR
 refine bK (l':=[(1,pV b1 0),(2,D 0),(6,.map (some b26)),(7,D p),(87,.slice A2 ls.length c2),(88,D (ls.length:Int)),(89,D (k:Int))]) FX (aX (aH ?_));by_cases h60:(k:Int)< (ls.length:Int)
 ·refine zN 11 ?_;obtain⟨b61,o62,rfl⟩:=Rd.addr (St.rd 3 yR E) Y;obtain⟨O,M⟩:=GX k (St.rd 3 yR E) Y;refine vv (mY k) ?_;refine vv (ay E E (eZ (cs:=Ls.cells O) (Rd.Al (St.rd 3 yR E) (λ_ _ h=>dw (enc:=Ls.cells) (sz:=4) (λ_=>E) M h)))) ?_;refine iL yR awj ?_;intro b65 Zc xI;refine sa 0 xI kQ ?_;intro w68 Df;refine zN 7 ?_;refine vv (ay E E (eZ (cs:=[D O.Vh.no,D O.Vh.body]) (St.rg 0 Df E (qW (x:=2) (m:=2) E)))) ?_;refine eB eQ (FZ ep nx gv _ _ W O.Vh _) ?_;rintro _ w70 ⟨rfl,aDp⟩;refine⟨_,E,?_⟩;have wo:=Df.on aDp
  cases arj:(uZ nx O.Vh)
  ·refine zN 40 ?_;exact⟨jl (CO λh=>by rw[J,Hl M,Pm,arj]at h;exact av h.2.2.1 iQ).symm,wo.QM⟩
  have aJw:=zS arj;refine zN 6 ?_;refine vg (ay E E (aV (St.cl 2 wo E Bt))) ?_;by_cases h75:O.iB=ep
  ·refine zN 7 ?_;by_cases h76:p<O.Qz
   ·refine zN 7 ?_;refine vg (ay E E (aV (St.cl 2 wo E DW))) ?_;by_cases h77:O.Qz<gv
    ·refine zN 20 ?_;refine vv (v:=.agg #[]) yz ?_;refine Q7 (z:=O.Vh.no) 1 wo (wn E) E E E E E E underlying3 underlying225 Y (by simp[maxLen];omega) ?_;intro w78 F4;rw[gq,Ns (f:=λm:Ls=>m.Vh.no) M]at F4;refine zN 4 ?_;refine vv (v:=D ((k+1:Nat):Int)) jB ?_;refine zN 2 ?_;have xJ:=F4.bg [0];refine bQ (k+1,O.Qz) ?_ FX (by first|omega|(dsimp only;omega));exact⟨uQ,(by dsimp only;rw[J,Hl M,Pm,arj,jU ⟨by omega,by omega,by omega⟩];rfl),xJ⟩
    refine zN 18 ?_;exact⟨jl (CO λh=>by rw[J,Hl M,Pm,jc (λh1=>h77 (h1.2.2)),Bool.and_false]at h;exact av h.2.2.1 iQ).symm,wo.QM⟩
   refine zN 26 ?_;exact⟨jl (CO λh=>by rw[J,Hl M,Pm,jc (λh1=>h76 (h1.2.1)),Bool.and_false]at h;exact av h.2.2.1 iQ).symm,wo.QM⟩
  refine zN 33 ?_;exact⟨jl (CO λh=>by rw[J,Hl M,Pm,jc (λh1=>h75 (h1.1)),Bool.and_false]at h;exact av h.2.2.1 iQ).symm,wo.QM⟩
 refine zN 14 ?_;have aDq:nR ep nx gv (-1) ls=true:=by rw[J,GL Y];rfl
 have F5:=yR;rw[jE (show ls.length<=k by omega)]at F5;change St _ _ _ [.loc b26 (Pg prog 3 (qE rs ls)),.Pj b1 (dU ep nx gv (.slice A1 rs.length c1) (.slice A2 ls.length c2) W) 178,.rd 2 A1 rs.length ((rs).flatMap iK.cells),.rd 4 A2 ls.length ((ls).flatMap Ls.cells)]at F5;obtain⟨m84,aDr,aDs,ark⟩:=ai7 0 F5 E underlying225 3;have hnl:(qE rs ls).length=rs.length+ls.length:=by simp[qE]
 rw[hnl]at aDs ark;refine vv (v:=D (m84:Int)) (lg (vs:=[.map (some b26)]) E tU1 aDr) ?_;refine zQ ?_;refine vv (ay E E (aV (St.cl 1 F5 E sP))) ?_;refine zN 2 ?_;refine vv (ay E E (aV (St.cl 1 F5 E wP))) ?_;refine zQ ?_;refine vv (v:=D ((rs.length+ls.length:Nat):Int)) jB ?_;by_cases h88:(m84:Int)< ((rs.length+ls.length:Nat):Int)
 ·refine zN 12 ?_;exact⟨jl (CO λh=>ark.1 Y h.2.2.2).symm,F5.QM⟩
 refine zN 13 ?_;exact⟨jl (azY (by unfold VP;omega) aDl aDn aDq (fM.1 λh=>h88 (by have:=ark.2 h;omega))).symm,F5.QM⟩
def adK{B g k c1 c2:Nat}{w0 w:World}{fs:List Nf}{A1 A2:Option Addr}{rs:List iK}{ls:List Ls}{W:mq}{ep nx gv kd id bd he hn:Int}(S:St B w0 w (.Pj g (dU ep nx gv (.slice A1 rs.length c1) (.slice A2 ls.length c2) W) 214:: .own 217 2 (.slice A1 rs.length c1) rs.length ((rs).flatMap iK.cells):: .own 220 4 (.slice A2 ls.length c2) ls.length ((ls).flatMap Ls.cells)::fs))(hk:k<4)(hlen:rs.length+ls.length<=500)(hnx:0<=nx/\nx<=1073741824)(hgv:0<=gv/\gv<=1073741824)(iB:0<=ep/\ep<=1048576):
 Calls prog 115 #[pV g 0,.agg #[D kd,D (k:Int),D id,D bd,D he,D hn]] w (Ir B w0 g fs (Et ⟨ep,nx,gv,rs,ls,W⟩ k id bd)):=by
 refine iW 94 func115 ?_;refine cw [0,1] ?_;refine zN 2 ?_;refine jM S ?_;intro b1 w2 S3;refine iL S3 wM ?_;intro b4 w5 S6;refine zN 3 ?_;refine pW (X:=Nat) (λxv=>[(0,pV g 0),(3,pV b1 0),(4,pV b4 0),(5,.bool false),(6,pV xv 0),(7,.bool ((jZ (W.at k) id).2.1)),(8,D ((jZ (W.at k) id).2.2))]) (λxv wr=>St B w0 wr ((.Pj xv (((jZ (W.at k) id).1.cells).toArray) 175)::(.Pj b4 #[D 0,D 0,D 0,D 0] 109)::(.Pj b1 #[D kd,D (k:Int),D id,D bd,D he,D hn] 53)::(.Pj g (dU ep nx gv (.slice A1 rs.length c1) (.slice A2 ls.length c2) W) 214)::(.own 217 2 (.slice A1 rs.length c1) rs.length ((rs).flatMap iK.cells))::(.own 220 4 (.slice A2 ls.length c2) ls.length ((ls).flatMap Ls.cells))::fs)) ?_ ?_
 ·have S7:=S6.drew;refine aO 19 S7 [] ?_;refine aP 6 ?_;refine ak (v:=pV g (5+k*9)) 6 E S7 (λ_ _=>(aQ E E E (fu k underlying176 kQ E hk))) ?_;refine ak (v:=.agg (((W.at k).cells).toArray)) 7 E S7 (λ_ arn=>(ay E E (eZ (cs:=(W.at k).cells) (St.rg 2 arn E (an8 hk))))) ?_;refine aP 2 ?_;refine jv (n:=8) (r:=10) (s:=15) kQ ?_ ?_
  ·refine lN 10 E eQ (Kz (W.at k) id _) ?_;rintro _ Qi ⟨rfl,aro⟩;refine⟨_,E,?_⟩;have xK:=S7.on aro;refine aP 5 ?_;refine bG 15 ?_;refine nQ 15 E xK arh ?_;intro b25 Rt xq;refine eH ?_;refine bG 16 ?_;refine snA 16 E 0 xq kQ ?_ (h1:=LP _);intro w28 xL;refine aP 4 ?_;refine eO b25 ?_ FX;exact xL
  refine nQ 15 E S7 arh ?_;intro b32 w33 uO;refine eH ?_;refine bG 10 ?_;refine lN 10 E eQ (Kz (W.at k) id _) ?_;rintro _ w35 ⟨rfl,arp⟩;refine⟨_,E,?_⟩;have wu:=uO.on arp;refine aP 5 ?_;refine bG 16 ?_;refine snA 16 E 0 wu kQ ?_ (h1:=LP _);intro WG vU;refine aP 4 ?_;refine eO b32 ?_ FX;exact vU
 rintro b46 w47 M
 try dsimp only at M
 refine bK (l':=[(0,pV g 0),(3,pV b1 0),(4,pV b4 0),(5,.bool false),(6,pV b46 0),(7,.bool ((jZ (W.at k) id).2.1)),(8,D ((jZ (W.at k) id).2.2))]) FX (aX (Ii (aX (aH (vm ?_)))));by_cases h1:(jZ (W.at k) id).2.2=0
 ·refine zN 8 ?_
  cases h2:(jZ (W.at k) id).2.1
  ·refine zN 8 ?_;refine sa 1 M kQ ?_;intro w49 AA;refine zN 7 ?_;have yh:=AA.bg [2,1,0];have rH:=yh.bU 1 E;have Az:=rH.bU 2 E;rw[aoa h1 h2];refine⟨E,A1,c1,A2,c2,?_⟩;dsimp only;exact Az
  refine zN 6 ?_;refine iN M mixed kQ ?_;refine zN 4 ?_;refine uv (v:=.slice A1 rs.length c1) (λ_ aDt=>(ay E E (aV (St.cl 3 aDt E sP)))) ?_;refine zN 5 ?_;refine uv (v:=.slice A2 ls.length c2) (λ_ aeS=>(ay E E (aV (St.cl 3 aeS E wP)))) ?_;refine zQ ?_;refine uv (v:=D ((rs.length+ls.length:Nat):Int)) (λ_ _=>jB) ?_;by_cases h3:rs.length+ls.length=500
  ·refine zN 10 ?_;refine iw λw71 Jo=>?_;refine zN 4 ?_;refine vv (v:=.agg #[D 14,D 0,D 0,D 0]) iE ?_;refine sa 1 Jo kQ ?_;intro w73 Ru;refine zN 7 ?_;have J6:=Ru.bg [2,1,0];have Qj:=J6.bU 1 E;have Fj:=Qj.bU 2 E;rw[WA h1 h2 (.inl h3)];refine⟨E,A1,c1,A2,c2,?_⟩;dsimp only;exact Fj
  refine zN 6 ?_;refine ug (v:=D nx) (λ_ aDu=>(ay E E (aV (St.cl 3 aDu E DV)))) ?_;by_cases h4:nx=1073741824
  ·refine zN 3 ?_;refine iw λw88 Qk=>?_;refine zN 4 ?_;refine vv (v:=.agg #[D 14,D 0,D 0,D 0]) iE ?_;refine sa 1 Qk kQ ?_;intro w90 U5;refine zN 7 ?_;have AB:=U5.bg [2,1,0];have F6:=AB.bU 1 E;have KN:=F6.bU 2 E;rw[WA h1 h2 (.inr h4)];refine⟨E,A1,c1,A2,c2,?_⟩;dsimp only;exact KN
  refine zN 3 ?_;refine iw λw98 S99=>?_;refine zN 6 ?_;have J:=S99.drew;refine aO 9 J [3] ?_;refine aP 7 ?_;refine ak (v:=pV g (5+k*9)) 7 E (St.del 3 J) (λ_ _=>(aQ E E E (fu k underlying176 kQ E hk))) ?_;refine bG 8 ?_;refine xC (i:=8) E E (cs:=((jZ (W.at k) id).1.cells).toArray) (row':=dU ep nx gv (.slice A1 rs.length c1) (.slice A2 ls.length c2) (W.put k (jZ (W.at k) id).1)) (fs':=(.Pj b46 (((jZ (W.at k) id).1.cells).toArray) 175)::(.Pj b4 #[D 0,D 0,D 0,D 0] 109)::(.Pj b1 #[D kd,D (k:Int),D id,D bd,D he,D hn] 53)::(.Pj g (dU ep nx gv (.slice A1 rs.length c1) (.slice A2 ls.length c2) (W.put k (jZ (W.at k) id).1)) 214)::(.own 217 2 (.slice A1 rs.length c1) rs.length ((rs).flatMap iK.cells))::(.own 220 4 (.slice A2 ls.length c2) ls.length ((ls).flatMap Ls.cells))::fs) 3 J (wn E) E E E E E E apS E (LP _) (by rw[Ay];omega) (aob hk) E ?_;intro aeU uP;refine aP 2 ?_;refine zN 2 ?_;have I:=uP.drew;refine gT 20 16 I [4] ?_;iterate 5 refine jf ?_
  refine gk (v:=.slice A1 rs.length c1) 5 E (St.del 4 I) (λ_ az0=>(ay E E (aV (St.cl 3 az0 E sP)))) ?_;iterate 4 refine jf ?_
  refine gk (v:=D nx) 10 E (St.del 4 I) (λ_ az1=>(ay E E (aV (St.cl 3 az1 E DV)))) ?_;iterate 2 refine jf ?_
  refine gk (v:=.agg #[D nx,D bd]) 13 E (St.del 4 I) (λ_ _=>iE) ?_;refine gF (m:=5) (r:=14) kQ ?_;refine oV (i:=14) E E (V:=λb=>.slice (aD b 0) 1 1) (row:= #[D nx,D bd]) (t:=217) I (wn E) E E (bq (vs:=[(0,.agg #[D nx,D bd])]) E Aq kQ) ?_;intro aMW ZO O;refine jf ?_;refine gF (m:=4) (r:=15) kQ ?_;refine ny (i:=15) E E (news:=[D nx,D bd]) (xs':=(rs++[(⟨nx,bd⟩:iK)]).flatMap iK.cells) 5 O (wn E) E E E E E E (St.nO (xs:=[D nx,D bd]) 0 O E E E) Tryz.underlying171 Y4 E dQ (dh E) lQ Y (jV (enc:=iK.cells) E E) ?_;intro aDv c130 alk aJx aJy BN;refine jf ?_;refine gy kQ E E E ?_;refine zN 3 ?_;refine kU 4 BN kQ ?_ (hs:=by exact LK);intro arq Z;refine zQ ?_;refine jY ?_;refine zN 7 ?_;refine vv (ay E E (aV (St.cl 4 Z E DV))) ?_;refine vv (v:=D (nx+1)) jB ?_;refine zN 3 ?_;refine kU 4 Z kQ ?_ (hs:=by exact an2);intro awq Eu;refine zN 5 ?_;refine sa 2 Eu kQ ?_;intro aDw J7;refine zN 5 ?_;have ZP:=J7.bg [3,2,1,0];have LV:=ZP.bU 1 E;have ZQ:=LV.bU 2 E;rw[aus h1 h2 (λh=>h.elim h3 h4)];have hln:=(by simp:(rs++[(⟨nx,bd⟩:iK)]).length=rs.length+1);refine⟨E,aDv,c130,A2,c2,?_⟩;dsimp only;rw[hln];exact ZQ
 refine zN 8 ?_;refine vv (v:=.agg #[D ((jZ (W.at k) id).2.2),D 0,D 0,D 0]) iE ?_;refine sa 1 M kQ ?_;intro alm Po;refine zN 7 ?_;have Iy:=Po.bg [2,1,0];have VQ:=Iy.bU 1 E;have Rv:=VQ.bU 2 E;rw[an9 h1];refine⟨E,A1,c1,A2,c2,?_⟩;dsimp only;exact Rv
def fE{w:World}{base:Nat}{e:TypeId}{size:Nat}{A:Option Addr}{n c:Nat}{xs:List Value}(h:w.ownsRow base e size (.slice A n c) n xs):n<=c/\c<=maxLen:=by
 obtain⟨A',c',I,h1,J⟩:=nZ h
 cases I;exact⟨h1,J⟩
def acV{α:Type}{enc:α->List Value}{sz:Nat}(h:∀x,(enc x).length=sz):∀(k:Nat) (l:List α),(l.flatMap enc).drop (k*sz)=(l.drop k).flatMap enc
 | 0,l=>by simp
 |k+1,[]=>by simp
 |k+1,x::l=>by rw[nK,mK,qR,<-lT,drop_left' (h x),acV h k l];rfl
def ajC{w:World}{B:Nat}{A:Option Addr}{rs:List iK}(h:Rd w B 2 A (rs.length-1) (((rs.flatMap iK.cells).drop (1*2)).take ((rs.length-1)*2))):Rd w B 2 A (rs.length-1) ((rs.drop 1).flatMap iK.cells):=by
 rw[acV (enc:=iK.cells) (sz:=2) (λ_=>E),jE (by rw[jF (sz:=2) (λ_=>E),dL];exact aB)]at h;exact h
def adO{B g k c1 c2:Nat}{w0 w:World}{fs:List Nf}{A1 A2:Option Addr}{rs:List iK}{ls:List Ls}{W:mq}{ep nx gv kd id bd he hn:Int}(S:St B w0 w (.Pj g (dU ep nx gv (.slice A1 rs.length c1) (.slice A2 ls.length c2) W) 214:: .own 217 2 (.slice A1 rs.length c1) rs.length ((rs).flatMap iK.cells):: .own 220 4 (.slice A2 ls.length c2) ls.length ((ls).flatMap Ls.cells)::fs))(hk:k<4)(hlen:rs.length+ls.length<=500)(hnx:0<=nx/\nx<=1073741824)(hgv:0<=gv/\gv<=1073741824)(iB:0<=ep/\ep<=1048576):
 Calls prog 116 #[pV g 0,.agg #[D kd,D (k:Int),D id,D bd,D he,D hn]] w (Ir B w0 g fs (J2 ⟨ep,nx,gv,rs,ls,W⟩)):=by
 refine iW 80 func116 ?_;refine cw [0,1] ?_;refine zN 2 ?_;refine jM S ?_;intro b1 w2 S3;refine iL S3 wM ?_;intro b4 w5 S6;refine zN 11 ?_;refine vv (ay E E (aV (St.cl 2 S6 E sP))) ?_;refine zQ ?_;by_cases h1:rs.length=0
 ·refine zN 7 ?_;refine vv (v:=.agg #[D 10,D 0,D 0,D 0]) iE ?_;refine sa 0 S6 kQ ?_;intro w7 S8;refine zN 7 ?_;have S9:=S8.bg [1,0];have F8:=S9.bU 1 E;have Fp:=F8.bU 2 E;rw[ajv h1];refine⟨E,A1,c1,A2,c2,?_⟩;dsimp only;exact Fp
 refine zN 11 ?_;refine vv (ay E E (aV (St.cl 2 S6 E DW))) ?_;by_cases h2:gv=1073741824
 ·refine zN 7 ?_;refine vv (v:=.agg #[D 14,D 0,D 0,D 0]) iE ?_;refine sa 0 S6 kQ ?_;intro w12 Rw;refine zN 7 ?_;have oJ:=Rw.bg [1,0];have ku:=oJ.bU 1 E;have rX:=ku.bU 2 E;rw[ajw h1 h2];refine⟨E,A1,c1,A2,c2,?_⟩;dsimp only;exact rX
 refine zN 9 ?_;have J:=S6.drew;refine gT 21 20 J [] ?_;iterate 4 refine jf ?_
 refine gk (v:=D ep) 4 E J (λ_ J8=>(ay E E (aV (St.cl 2 J8 E Bt)))) ?_;iterate 4 refine jf ?_
 refine gk (v:=D gv) 9 E J (λ_ aDx=>(ay E E (aV (St.cl 2 aDx E DW)))) ?_;refine gk (v:=.agg #[D ep,D gv]) 10 E J (λ_ _=>iE) ?_;iterate 4 refine jf ?_
 refine gk (v:=.slice A1 rs.length c1) 15 E J (λ_ ars=>(ay E E (aV (St.cl 2 ars E sP)))) ?_;obtain⟨b34,o35,rfl⟩:=Rd.addr (St.Vj 3 J E) Y;obtain⟨I,O⟩:=GX 0 (St.Vj 3 J E) Y;refine gk 16 E J (λ_ _=>mY 0) ?_;refine gk (v:=.agg #[D I.no,D I.body]) 17 E J (λ_ aDy=>(ay E E (eZ (cs:=iK.cells I) (Rd.Al (St.Vj 3 aDy E) (λ_ _ h=>dw (enc:=iK.cells) (sz:=2) (λ_=>E) O h))))) ?_;refine gk (v:=.agg #[D ep,D gv,D I.no,D I.body]) 18 E J (λ_ _=>iE) ?_;refine gF (m:=1) (r:=19) kQ ?_;refine oV (i:=19) E E (V:=λb=>pV b 0) (row:= #[D 0,D 0,D 0,D 0]) (t:=220) J (wn E) E E (jJ E (Tryz.zeroValue220 _) E) ?_;intro b41 WG vU;refine jf ?_;refine gy kQ E E E ?_;refine sa 0 vU kQ ?_;intro U4 M;refine zQ ?_;refine jY ?_;refine zN 8 ?_;refine vv (ay E E (aV (St.cl 3 M E sP))) ?_;have hcp:=fE (M.own 4 E);obtain⟨A46,aDz,aDA,aDB⟩:=Er (P:=prog) (t:=171) (s:=2) (A:=(aD b34 o35)) (n:=rs.length) (c:=c1) (lo:=some (D 1)) (hi:=none) (mx:=none) (l:=1) (k:=rs.length) (q:=c1) Tryz.underlying171 kQ (ali 1 E Y) Y aB Y;refine vv (v:=.slice A46 (rs.length-1) (c1-1)) (lU E E (kI E) qD qD (aDz _)) ?_;have AA:=M.seal 4 E (ajC (aDA _ _ _ (St.Vj 4 M E))) (λa h=>aDB a h);refine zN 3 ?_;refine kU 3 AA kQ ?_ (hs:=by exact LK);intro w51 rH;refine zN 3 ?_;have Z:=rH.drew;refine gT 13 9 Z [5] ?_;iterate 5 refine jf ?_
 refine gk (v:=.slice A2 ls.length c2) 5 E (St.del 5 Z) (λ_ aeW=>(ay E E (aV (St.cl 3 aeW E wP)))) ?_;refine jf ?_;refine gF (m:=5) (r:=7) kQ ?_;refine oV (i:=7) E E (V:=λb=>.slice (aD b 0) 1 1) (row:= #[D ep,D gv,D I.no,D I.body]) (t:=220) Z (wn E) E E (bq (vs:=[(0,.agg #[D ep,D gv,D I.no,D I.body])]) E Aq kQ) ?_;intro b61 w62 zD;refine jf ?_;refine gF (m:=4) (r:=8) kQ ?_;refine ny (i:=8) E E (news:=[D ep,D gv,D I.no,D I.body]) (xs':=(ls++[(⟨ep,gv,I⟩:Ls)]).flatMap Ls.cells) 6 zD (wn E) E E E E E E (St.nO (xs:=[D ep,D gv,D I.no,D I.body]) 0 zD E E E) underlying172 ahK E dQ (dh E) lQ Y (jV (enc:=Ls.cells) E E) ?_;intro A64 c65 Zc aMX aMY xI;refine jf ?_;refine gy kQ E E E ?_;refine zN 3 ?_;refine kU 4 xI kQ ?_ (hs:=by exact LM);intro w70 wo;refine zQ ?_;refine jY ?_;refine zN 7 ?_;refine vv (ay E E (aV (St.cl 4 wo E DW))) ?_;refine vv (v:=D (gv+1)) jB ?_;refine zN 3 ?_;refine kU 4 wo kQ ?_ (hs:=by exact acO);intro w72 xu;refine zN 5 ?_;refine vv (ay E E (eZ (cs:=[D ep,D gv]) (St.rg 1 xu E (qW (x:=0) (m:=2) E)))) ?_;refine zN 3 ?_;refine vv (v:=.agg #[D 0,D ep,D gv,D I.body]) iE ?_;refine sa 2 xu kQ ?_;intro w74 J6;refine zN 5 ?_;have Qj:=J6.bg [3,2,1,0];have Fj:=Qj.bU 2 E;have hl1:(rs.drop 1).length=rs.length-1:=by simp
 have hl2:(ls++[(⟨ep,gv,I⟩:Ls)]).length=ls.length+1:=by simp
 rw[aut O h2];refine⟨E,A46,(c1-1),A64,c65,?_⟩;dsimp only;rw[hl1,hl2];exact Fj
abbrev bR (b:bF)(A:Option Addr)(c:Nat):Array Value:= #[D b.GR,D b.ep,D b.fr,D b.tg,D b.rd,.slice A b.JU.length c]
abbrev zB:Array Value:= #[D 0,D 0,D 0,D 0,D 0,.slice none 0 0]
abbrev rR (k q e p:Int)(x:Ev):Array Value:= #[D k,D q,D e,D p,D x.kind,D x.Pv,D x.id,D x.body,D x.Qs,D x.Qz]
def ajD:flat tP 30 51=some [.at_ (.int .i64),.at_ (.int .i64)]:=kQ
def ajE:Lp tP 30 51=true:=kQ
def aog(xs:List Value):mkV tP 51 xs=.agg xs.toArray:=by
 unfold mkV;rw[underlying51]
def Yh(a b c d:Int)(w:World):(binOp .eql 51 (.agg #[D a,D b]) (.agg #[D c,D d])).run tP w=.ok (.bool (a==c&&b==d)) w:=by
 have h:=FV (P:=tP) w ajD ajE aog (xs:=[D a,D b]) (ys:=[D c,D d]) ⟨⟨_,E⟩,⟨_,E⟩,trivial⟩ ⟨⟨_,E⟩,⟨_,E⟩,trivial⟩;rw[show gu [D a,D b] [D c,D d]=(a==c&&b==d) by simp[gu,E8]]at h;exact h
def BO(he hn:Int)(x:Ls):Bool:=x.iB==he&&x.Qz==hn
def U7(he hn:Int)(ls:List Ls):Int:=match ls.findIdx? (BO he hn)with
 |some k=>(k:Int)
 |none=> -1
def Oy{he hn:Int}{ls:List Ls}(h:∀(j:Nat) (y:Ls),j<ls.length->ls[j]? =some y->BO he hn y=false):U7 he hn ls= -1:=by
 unfold U7;rw[findIdx?_eq_none_iff.2 (λy J=>by obtain⟨j,I,e⟩:=DX J;exact h j y I (by rw[dJ I,e]))]
def WH{he hn:Int}{ls:List Ls}{k:Nat}{x:Ls}(h:∀(j:Nat) (y:Ls),j<k->ls[j]? =some y->BO he hn y=false)(I:ls[k]? =some x)(J:BO he hn x=true):U7 he hn ls=k:=by
 unfold U7;obtain⟨M,e⟩:=cK.1 I;rw[findIdx?_eq_some_iff_getElem.2 ⟨M,by rw[e];exact J,λj O=>by rw[h j _ O (dJ Y)];simp⟩]
def J9{hn:Int}{ls:List Ls}(h:∀x∈ls,¬x.Qz=hn):(ls.filter λx=>decide (x.Qz≠hn))=ls:=filter_eq_self.2 λx I=>by simpa using h x I
def ajF{hn:Int}{ls:List Ls}{k:Nat}{x:Ls}(J:ls[k]? =some x)(M:x.Qz=hn)(hu:∀(i j:Nat) (a b:Ls),ls[i]? =some a->ls[j]? =some b->a.Qz=b.Qz->i=j):(ls.filter λx=>decide (x.Qz≠hn))=ls.eraseIdx k:=by
 obtain⟨hk,e⟩:=cK.1 J;have e1:ls=ls.take k++x::ls.drop (k+1):=by rw[<-e,<-yM hk,yN]
 rw[eraseIdx_eq_take_drop_succ]
 conv=>lhs;rw[e1]
 rw[filter_append,filter_cons,ah (by simp[M])]
 congr 1
 ·refine J9 λy O h=>?_;obtain⟨j,Z,I⟩:=DX O;rw[dV]at Z;have:=hu j k y x (by rw[getElem_take]at I;rw[<-I];exact dJ Y) J (by rw[h,M]);omega
 refine J9 λy O h=>?_;obtain⟨j,Z,I⟩:=DX O;rw[dL]at Z;have:=hu (k+1+j) k y x (by rw[getElem_drop]at I;rw[<-I];exact dJ Y) J (by rw[h,M]);omega
def abf(x:Ls)(b:Nat)(he hn:Int)(w:World)(h:Rd w w.heap.size 2 (aD b 4) 1 [D he,D hn]):
 Calls tP 123 #[.agg #[D x.iB,D x.Qz,D x.Vh.no,D x.Vh.body],pV b 0] w (Jl w (x.iB==he&&x.Qz==hn)):=by
 have S:=(St.start w).dG h;refine iW 9 func123 ?_;refine cw [0,1] ?_;refine zN 2 ?_;refine jM S ?_;intro b1 J I;refine zN 6 ?_;refine vv (ay E E (eZ (cs:=[D x.iB,D x.Qz]) (St.rg 0 I E (qW (x:=0) (m:=2) E)))) ?_;refine zQ ?_;refine vv (v:=.agg #[D he,D hn]) (ay E E (eZ (cs:=[D he,D hn]) (Rd.Al (off:=4) (j:=0) (St.rd 1 I E) (λi u h=>by rw[fq];exact h)))) ?_;refine vv (v:=.bool (x.iB==he&&x.Qz==hn)) (cO E E E (K9 kQ (Yh x.iB x.Qz he hn _))) ?_;refine zN 5 ?_;exact⟨E,I.QM⟩
def Yi(A:Option Addr)(c b:Nat)(he hn:Int)(ls:List Ls)(w:World)(h:Rd w w.heap.size 4 A ls.length (ls.flatMap Ls.cells))(h2:Rd w w.heap.size 2 (aD b 4) 1 [D he,D hn])(hl:ls.length<=500):
 Calls tP 122 #[.slice A ls.length c,.func (.func 123) #[] #[pV b 0]] w (ZM w (U7 he hn ls)):=by
 have S:=((St.start w).dG h).dG h2;refine iW 19 func122 ?_;refine cw [0,1] ?_;refine zN 14 ?_;refine fV (X:=Nat) (λZ=>[(0,.slice A ls.length c),(1,.func (.func 123) #[] #[pV b 0]),(4,D 0),(7,D (ls.length:Int)),(8,D (Z:Int))]) (λZ wr=>(Z<=ls.length)/\(∀(j:Nat) (y:Ls),j<Z->ls[j]? =some y->BO he hn y=false)/\St w.heap.size w wr [.rd 2 (aD b 4) 1 [D he,D hn],.rd 4 A ls.length ((ls).flatMap Ls.cells)]) (λZ=>ls.length-Z) (0) ?_ ?_ ?_
 ·exact⟨aC _,λj y hj=>av hj (G9 _),S⟩
 ·exact Dc
 rintro k w1 ⟨hi3,I,S2⟩
 try dsimp only at hi3 I S2
 refine bK (l':=[(0,.slice A ls.length c),(1,.func (.func 123) #[] #[pV b 0]),(4,D 0),(7,D (ls.length:Int)),(8,D (k:Int))]) Dc (aX (aH ?_));by_cases h5:(k:Int)< (ls.length:Int)
 ·refine zN 20 ?_;obtain⟨b6,o7,rfl⟩:=Rd.addr (St.rd 1 S2 E) Y;obtain⟨M,O⟩:=GX k (St.rd 1 S2 E) Y;refine vv (mY k) ?_;refine vv (ay E E (eZ (cs:=Ls.cells M) (Rd.Al (St.rd 1 S2 E) (λ_ _ h=>dw (enc:=Ls.cells) (sz:=4) (λ_=>E) O h)))) ?_;have HC:=λw h=>abf M b he hn w h
  cases J:BO he hn M
  ·rw[show(M.iB==he&&M.Qz==hn)=false from J]at HC;refine zn eQ (HC _ (St.rd 0 S2 E)) ?_;rintro _ w10 ⟨rfl,aDC⟩;refine⟨_,E,?_⟩;have Fp:=S2.on aDC;refine zN 7 ?_;refine vv (v:=D ((k+1:Nat):Int)) jB ?_;refine zN 2 ?_;refine bQ (k+1) ?_ Dc (by first|omega|(dsimp only;omega));exact⟨Y,(λj y hj hy=>(sO.1 hj).elim (λh=>I j y h hy) (λh=>by rw[h,O]at hy;cases hy;exact J)),Fp⟩
  rw[show(M.iB==he&&M.Qz==hn)=true from J]at HC;refine zn eQ (HC _ (St.rd 0 S2 E)) ?_;rintro _ Hq ⟨rfl,aDD⟩;refine⟨_,E,?_⟩;have oJ:=S2.on aDD;refine zN 16 ?_;exact⟨jl (WH I O J).symm,oJ.QM⟩
 refine zN 17 ?_;exact⟨jl (Oy (λj y hj hy=>I j y Y hy)).symm,S2.QM⟩
def aoh{he hn:Int}{ls:List Ls}(h:¬ ∃(k:Nat) (x:Ls),ls[k]? =some x/\BO he hn x=true/\ ∀(j:Nat) (y:Ls),j<k->ls[j]? =some y->BO he hn y=false):∀y∈ls,BO he hn y=false:=by
 intro y I
 rcases hf:ls.findIdx? (BO he hn)with _|k
 ·exact findIdx?_eq_none_iff.1 hf y I
 obtain⟨J,h1,M⟩:=findIdx?_eq_some_iff_getElem.1 hf;refine av ⟨k,ls[k],dJ J,h1,λj z O Z=>?_⟩ h;have:=M j O;obtain⟨hj',e⟩:=cK.1 Z;rw[e]at this;simpa using this
def aoi{he hn:Int}{x:Ls}(h:BO he hn x=true):x.Qz=hn:=by simp[BO]at h;exact h.2
def aoj{he hn ep:Int}{x:Ls}(h:x.iB=ep)(h1:he=ep)(I:x.Qz=hn):BO he hn x=true:=by simp[BO,h,h1,I]
def aeY{B g k c1 c2:Nat}{w0 w:World}{fs:List Nf}{A1 A2:Option Addr}{rs:List iK}{ls:List Ls}{W:mq}{ep nx gv kd id bd he hn:Int}(S:St B w0 w (.Pj g (dU ep nx gv (.slice A1 rs.length c1) (.slice A2 ls.length c2) W) 214:: .own 217 2 (.slice A1 rs.length c1) rs.length ((rs).flatMap iK.cells):: .own 220 4 (.slice A2 ls.length c2) ls.length ((ls).flatMap Ls.cells)::fs))(hk:k<4)(hlen:rs.length+ls.length<=500)(hnx:0<=nx/\nx<=1073741824)(hgv:0<=gv/\gv<=1073741824)(iB:0<=ep/\ep<=1048576)(hE:∀x∈ls,x.iB=ep)(hU:∀(i j:Nat) (a b:Ls),ls[i]? =some a->ls[j]? =some b->a.Qz=b.Qz->i=j):
 Calls tP 117 #[pV g 0,.agg #[D kd,D (k:Int),D id,D bd,D he,D hn]] w (Ir B w0 g fs (Ip ⟨ep,nx,gv,rs,ls,W⟩ he hn)):=by
 refine iW 41 func117 ?_;refine cw [0,1] ?_;refine zN 2 ?_;refine jM S ?_;intro b1 w2 S3;refine iL S3 wM ?_;intro b4 w5 S6;refine zN 5 ?_;refine iN S6 mixed kQ ?_;refine zN 7 ?_;refine uv (v:=D ep) (λ_ aru=>(ay E E (aV (St.cl 2 aru E Bt)))) ?_;by_cases h1:he=ep
 ·refine zQ ?_;refine iw λw16 I=>?_;refine zN 10 ?_;refine vv (ay E E (aV (St.cl 2 I E wP))) ?_;refine vv MQ ?_;have HI:=λA c w h h2=>Yi A c b1 he hn ls w h h2 Y
  rcases Classical.em (∃(k:Nat) (x:Ls),ls[k]? =some x/\BO he hn x=true/\ ∀(j:Nat) (y:Ls),j<k->ls[j]? =some y->BO he hn y=false)with⟨kk,x,hx,hm,hbf⟩|Qz
  ·rw[WH hbf hx hm]at HI;have Z:=(cK.1 hx).1;refine eB eQ (HI _ _ _ (St.Vj 4 I E) (ahF 1 I E E (λj u h=>by rcases j with _|_|_<;>first|exact h|(simp at h)))) ?_;rintro _ Qi ⟨rfl,aro⟩;refine⟨_,E,?_⟩;have J:=I.on aro;refine zN 20 ?_;refine vv (ay E E (aV (St.cl 2 J E wP))) ?_;refine zN 2 ?_;refine vv (v:=D ((kk+1:Nat):Int)) jB ?_;obtain⟨g2,rfl⟩:=zO (J.own 4 E) Y;refine eB eQ (X6 g2 ls.length c2 kk _ (ls.flatMap Ls.cells) _ (J.own 4 E) (acR _) Z) ?_;rintro _ Jm ⟨rfl,aDE,M⟩;refine⟨_,E,?_⟩;rw[Nk (enc:=Ls.cells) (sz:=4) (λ_=>E)]at M;have lY:=J.ahc 4 E aDE M;refine zN 3 ?_;refine kU 2 lY kQ ?_ (hs:=by exact LM);intro w25 uE;refine zN 5 ?_;refine sa 0 uE kQ ?_;intro Rs wm;refine zN 5 ?_;have xL:=wm.bg [1,0];have Ew:=xL.bU 1 E;have tN:=Ew.bU 2 E;have hel:(ls.eraseIdx kk).length=ls.length-1:=length_eraseIdx_of_lt Z;have hfo:=ajF hx (aoi hm) hU;rw[auu h1 (by rw[hfo,hel];omega),hfo];refine⟨E,A1,c1,(aD g2 0),c2,?_⟩;dsimp only;rw[hel];exact tN
  have O:=aoh Qz;rw[Oy (λj y _ hy=>O y (jm hy))]at HI;refine eB eQ (HI _ _ _ (St.Vj 4 I E) (ahF 1 I E E (λj u h=>by rcases j with _|_|_<;>first|exact h|(simp at h)))) ?_;rintro _ w32 ⟨rfl,aDF⟩;refine⟨_,E,?_⟩;have yS:=I.on aDF;refine zN 13 ?_;refine vv (v:=.agg #[D 7,D 0,D 0,D 0]) iE ?_;refine sa 0 yS kQ ?_;intro w35 wu;refine zN 6 ?_;have F9:=wu.bg [1,0];have Dg:=F9.bU 1 E;have Ey:=Dg.bU 2 E;rw[ajx h1 (by rw[J9 (λy hy hyn=>by have:=O y hy;rw[aoj (hE y hy) h1 hyn]at this;cases this)])];refine⟨E,A1,c1,A2,c2,?_⟩;dsimp only;exact Ey
 refine zQ ?_;refine iw λw41 Hr=>?_;refine zN 4 ?_;refine vv (v:=.agg #[D 11,D 0,D 0,D 0]) iE ?_;refine sa 0 Hr kQ ?_;intro w43 Fq;refine zN 6 ?_;have tO:=Fq.bg [1,0];have zF:=tO.bU 1 E;have Cu:=zF.bU 2 E;rw[aeN h1];refine⟨E,A1,c1,A2,c2,?_⟩;dsimp only;exact Cu
def aeZ{B g k c1 c2:Nat}{w0 w:World}{fs:List Nf}{A1 A2:Option Addr}{rs:List iK}{ls:List Ls}{W:mq}{ep nx gv kd id bd he hn:Int}(S:St B w0 w (.Pj g (dU ep nx gv (.slice A1 rs.length c1) (.slice A2 ls.length c2) W) 214:: .own 217 2 (.slice A1 rs.length c1) rs.length ((rs).flatMap iK.cells):: .own 220 4 (.slice A2 ls.length c2) ls.length ((ls).flatMap Ls.cells)::fs))(hk:k<4)(hlen:rs.length+ls.length<=500)(hnx:0<=nx/\nx<=1073741824)(hgv:0<=gv/\gv<=1073741824)(iB:0<=ep/\ep<=1048576)(hA:u6 rs)(hN:(qE rs ls).Nodup):
 Calls prog 118 #[pV g 0,.agg #[D kd,D (k:Int),D id,D bd,D he,D hn]] w (Ir B w0 g fs (Iq ⟨ep,nx,gv,rs,ls,W⟩)):=by
 refine iW 63 func118 ?_;refine cw [0,1] ?_;refine zN 2 ?_;refine jM S ?_;intro b1 w2 S3;refine iL S3 wM ?_;intro b4 w5 S6;refine zN 10 ?_;refine vv (ay E E (aV (St.cl 2 S6 E Bt))) ?_;by_cases h1:ep=1048576
 ·refine zN 6 ?_;refine vv (v:=.agg #[D 14,D 0,D 0,D 0]) iE ?_;refine sa 0 S6 kQ ?_;intro w7 S8;refine zN 6 ?_;have S9:=S8.bg [1,0];have F8:=S9.bU 1 E;have Fp:=F8.bU 2 E;rw[ajy h1];refine⟨E,A1,c1,A2,c2,?_⟩;dsimp only;exact Fp
 refine zN 13 ?_;refine vv (ay E E (aV (St.cl 2 S6 E wP))) ?_;refine zN 5 ?_;refine fV (X:=Nat×(Option Addr)×Nat) (λJ=>[(0,pV g 0),(4,pV b4 0),(5,.bool false),(19,.slice A2 ls.length c2),(20,D (ls.length:Int)),(21,D (J.1:Int))]) (λJ wr=>(J.1<=ls.length)/\St B w0 wr ((.Pj b4 #[D 0,D 0,D 0,D 0] 109)::(.Pj b1 #[D kd,D (k:Int),D id,D bd,D he,D hn] 53)::(.Pj g (dU ep nx gv (.slice J.2.1 (rs.length+J.1) J.2.2) (.slice A2 ls.length c2) W) 214)::(.own 217 2 (.slice J.2.1 (rs.length+J.1) J.2.2) (rs.length+J.1) ((rs++(ls.take J.1).map (·.Vh)).flatMap iK.cells))::(.own 220 4 (.slice A2 ls.length c2) ls.length ((ls).flatMap Ls.cells))::fs)) (λJ=>ls.length-J.1) (0,A1,c1) ?_ ?_ ?_
 ·exact⟨aC _,by dsimp only;rw[show rs++(ls.take 0).map (·.Vh)=rs by simp];exact S6⟩
 ·exact vD
 rintro⟨q,Ab,cb⟩ w12 ⟨Pn,M⟩
 try dsimp only at Pn M
 refine bK (l':=[(0,pV g 0),(4,pV b4 0),(5,.bool false),(19,.slice A2 ls.length c2),(20,D (ls.length:Int)),(21,D (q:Int))]) vD (aX (aH ?_));by_cases h15:(q:Int)< (ls.length:Int)
 ·refine zN 11 ?_;obtain⟨b16,o17,rfl⟩:=Rd.addr (St.Vj 4 M E) Y;obtain⟨I,awv⟩:=GX q (St.Vj 4 M E) Y;refine vv (mY q) ?_;refine vv (ay E E (eZ (cs:=Ls.cells I) (Rd.Al (St.Vj 4 M E) (λ_ _ h=>dw (enc:=Ls.cells) (sz:=4) (λ_=>E) awv h)))) ?_;refine iL M awj ?_;intro b20 Jm lY;refine sa 0 lY kQ ?_;intro Oz mG;refine zN 2 ?_;have Z:=mG.drew;refine gT 14 10 Z [4] ?_;iterate 5 refine jf ?_
  refine gk (v:=.slice Ab (rs.length+q) cb) 5 E (St.del 4 Z) (λ_ ae0=>(ay E E (aV (St.cl 3 ae0 E sP)))) ?_;refine jf ?_;refine gk (v:=.agg #[D I.Vh.no,D I.Vh.body]) 7 E (St.del 4 Z) (λ_ ars=>(ay E E (eZ (cs:=[D I.Vh.no,D I.Vh.body]) (St.rg 0 ars E (qW (x:=2) (m:=2) E))))) ?_;refine gF (m:=5) (r:=8) kQ ?_;refine oV (i:=8) E E (V:=λb=>.slice (aD b 0) 1 1) (row:= #[D I.Vh.no,D I.Vh.body]) (t:=217) Z (wn E) E E (bq (vs:=[(0,.agg #[D I.Vh.no,D I.Vh.body])]) E Aq kQ) ?_;intro b34 w35 wu;refine jf ?_;refine gF (m:=4) (r:=9) kQ ?_;refine ny (i:=9) E E (news:=[D I.Vh.no,D I.Vh.body]) (xs':=(rs++(ls.take (q+1)).map (·.Vh)).flatMap iK.cells) 5 wu (wn E) E E E E E E (St.nO (xs:=[D I.Vh.no,D I.Vh.body]) 0 wu E E E) Tryz.underlying171 Y4 E dQ (dh E) lQ Y (jV (enc:=iK.cells) (by rw[gq,Ns (f:=λx:Ls=>x.Vh) awv]) E) ?_;intro A37 c38 w39 aMZ aM0 zG;refine jf ?_;refine gy kQ E E E ?_;refine zN 3 ?_;refine kU 4 zG kQ ?_ (hs:=by exact LK);intro w43 Fq;refine zQ ?_;refine jY ?_;refine zN 3 ?_;refine vv (v:=D ((q+1:Nat):Int)) jB ?_;refine zN 2 ?_;have tO:=Fq.bg [1,0];refine bQ (q+1,A37,c38) ?_ vD (by first|omega|(dsimp only;omega));exact⟨uQ,tO⟩
 refine zN 12 ?_;obtain rfl:q=ls.length:=Y;have O:=M;rw[jy]at O;refine zN 4 ?_;refine vv (ay E E (aV (St.cl 2 O E sP))) ?_;have hml:(rs++ls.map (·.Vh)).length=rs.length+ls.length:=by simp
 have HS:=λA c w (ho:World.ownsRow w B 217 2 (.slice A (rs++ls.map (·.Vh)).length c) (rs++ls.map (·.Vh)).length ((rs++ls.map (·.Vh)).flatMap iK.cells))=>Ye A c (rs++ls.map (·.Vh)) w ho Y;rw[hml]at HS;refine eB eQ (HS Ab cb _ (O.own 3 E)) ?_;rintro _ w47 ⟨rfl,d49,aww,aDG,awx,awy⟩;refine⟨_,E,?_⟩;have Dh:=O.append 3 E awy awx (.inl E);have hdl:=ajz aww aDG hA hN;clear HS awx awy O;refine zN 8 ?_;refine kU 2 Dh kQ ?_ (hs:=by exact LM);intro w54 zh;refine zN 8 ?_;refine vv (ay E E (aV (St.cl 2 zh E Bt))) ?_;refine vv (v:=D (ep+1)) jB ?_;refine zN 3 ?_;refine kU 2 zh kQ ?_ (hs:=by exact an1);intro w56 yR;refine zN 8 ?_;refine kU 2 yR kQ ?_ (hs:=by exact acO);intro w58 Ez;refine zN 5 ?_;refine sa 0 Ez kQ ?_;intro w60 KO;refine zN 5 ?_;have MR:=KO.bg [1,0];have zD:=MR.bU 1 E;have S64:=zD.seal 2 E Rd.UZ (λ(a:Addr) (h:(none:Option Addr)=some a)=>by cases h);have hln:d49.length=rs.length+ls.length:=by rw[aww.length_eq,hml]
 rw[auv h1,<-hdl];refine⟨E,Ab,cb,none,0,?_⟩;dsimp only;rw[hln];exact S64
section
variable {P:Program}{N:Nat}{l l':QF}{w w' w0:World}{ops:Array Oper}{o:Oper}{rest:List Oper}{Q:Exit->Act->World->Prop}{d B:Nat}{v p:Value}{fs fs':List Nf}{b m f:Nat}{row row' cs:Array Value}{t ty:TypeId}{x y:Operand}
def saq(i:Nat)(S:St B w0 w fs)(I:(P.info? ty).map (·.size)=some m)(h:∀w',St B w0 w' fs'->wL P N ops Q rest l w')(hw:o.guard=none:=by exact E)(J:o.dst=none:=by exact E)(M:o.op=.store ty x y:=by exact E)
  (O:ev l x=some (.pointer (some ⟨b,0,none⟩)):=by exact E) (Z:ev l y=some v:=by exact E) (hi:fs[i]? =some (.Pj b row t):=by exact E) (hv:v.cells=cs:=by exact E) (hm:cs.size=m:=by exact E)
  (h1:∀u∈cs.toList,u.oneCell'=true:=by exact Nq E E) (hr:ble m row.size=true:=by exact E) (hs:row.size=cs.size:=by exact E) (hf:jL (.Pj b cs t) fs i fs':=by repeat' first|exact jL.z|apply jL.s):wL P N ops Q (o::rest) l w:=
 Jb i S (wn hw) J M O Z hi hv I hm h1 (by rw[fq];exact fK hr) (uW hs) hf.eq h
def snq{C:World->Prop}{n:Nat}{listed listed':Array Bool}(j:Nat)(I:ops[j]? =some o)(i:Nat)(S:St B w0 w fs)(J:(P.info? ty).map (·.size)=some m)(h:∀w',St B w0 w' fs'->C w'/\wA P N ops Q C n listed' l w')(M:listed.setIfInBounds j true=listed':=by exact E)
  (hw:o.guard=none:=by exact E) (O:o.dst=none:=by exact E) (Z:o.op=.store ty x y:=by exact E) (hx:ev l x=some (.pointer (some ⟨b,0,none⟩)):=by exact E) (hy:ev l y=some v:=by exact E) (hi:fs[i]? =some (.Pj b row t):=by exact E) (hv:v.cells=cs:=by exact E)
  (hm:cs.size=m:=by exact E) (h1:∀u∈cs.toList,u.oneCell'=true:=by exact Nq E E) (hr:ble m row.size=true:=by exact E) (hs:row.size=cs.size:=by exact E) (hf:jL (.Pj b cs t) fs i fs':=by repeat' first|exact jL.z|apply jL.s):wK P N ops Q C n j listed l w:=
 xC I M i S (wn hw) O Z hx hy hi hv J hm h1 (by rw[fq];exact fK hr) (uW hs) hf.eq h
end
def KP(e:Ev)(w:World):Calls prog 72 #[e.val] w (ZM w (bJ e)):=(KA e w).mono λ_ _ h=>⟨h.1,h.2⟩
def Nv{B:Nat}{w0 w:World}(S:St B w0 w []):St B w0 w [.dB 2 none 0 [],.dB 4 none 0 []]:=
 (aG S).cons ⟨Rd.UZ,λa h=>by cases h⟩ λk I=>by cases I
def zT(ep nx gv kd pr id bd he hn:Int)(A1 A2:Option Addr)(c1 c2:Nat)(rs:List iK)(ls:List Ls)(W:mq)(w:World)(h1:Rd w w.heap.size 2 A1 rs.length (rs.flatMap iK.cells))(h2:Rd w w.heap.size 4 A2 ls.length (ls.flatMap Ls.cells))(hb1:rs.length*16<=reachBytes)(hb2:ls.length*32<=reachBytes):
 Calls prog 105 #[.agg (dU ep nx gv (.slice A1 rs.length c1) (.slice A2 ls.length c2) W),.agg #[D kd,D pr,D id,D bd,D he,D hn]] w (aod w (jN ⟨ep,nx,gv,rs,ls,W⟩ ⟨kd,pr,id,bd,he,hn⟩)):=by
 have S:=((St.start w).dG h2).dG h1;refine iW 70 func105 ?_;refine cw [0,1] ?_;refine zN 2 ?_;refine jM S ?_;intro b1 w2 S3;refine jM S3 ?_;intro b4 w5 S6;refine mE (V:=λb=>pV b 0) (row:=dU 0 0 0 (.slice none 0 0) (.slice none 0 0) kX) (t:=178) S6 (wn E) E E (jJ E (Tryz.zeroValue178 _) E) ?_;intro b7 w8 S9;refine iL S9 wM ?_;intro b10 KM rA;refine zN 8 ?_;refine Vm eQ rA (ahZ ep nx gv A1 A2 c1 c2 rs ls W _ (St.rd 4 rA E) (St.rd 5 rA E) hb1 hb2) ?_;intro Hq oJ;refine zN 6 ?_;by_cases h0:iH ep nx gv rs ls W=0
 ·obtain⟨hR,hW,hRd,hLs,hNd⟩:=TU h0;unfold VP at hR;refine zN 10 ?_;refine Vm eQ oJ (KP ⟨kd,pr,id,bd,he,hn⟩ _) ?_;intro w16 zi;refine zN 6 ?_;by_cases h1:bJ ⟨kd,pr,id,bd,he,hn⟩=0
  ·have hkd:=aof h1;have hpr:=acQ h1;simp only at hkd hpr;obtain⟨k,hk0⟩:∃k:Nat,pr=(k:Int):=⟨pr.toNat,by omega⟩;subst hk0;have hk:k<4:=Y;refine zN 9 ?_;refine vv (v:=.agg (dU ep nx gv (.slice A1 rs.length c1) (.slice A2 ls.length c2) W)) iE ?_;refine jM zi ?_;intro h w20 yj;refine zN 4 ?_;have lY:=yj.drew;refine aO 16 lY [0] ?_;refine aP 3 ?_;refine ak (v:=.slice A1 rs.length c1) 3 E (St.del 0 lY) (λ_ arv=>(ay E E (aV (St.cl 3 arv E sP)))) ?_;refine eH ?_;refine ak (v:=.slice A2 ls.length c2) 6 E (St.del 0 lY) (λ_ arw=>(ay E E (aV (St.cl 3 arw E wP)))) ?_;refine bG 4 ?_;refine lN 4 E eQ (ahX A1 rs.length c1 _ _ (St.rd 5 lY E) (ajB rs) hb1) ?_;rintro _ w33 ⟨J,M,rfl,aDH,aDI⟩;refine⟨_,E,?_⟩;have uO:=lY.xB aDH aDI;refine eH ?_;refine bG 7 ?_;refine lN 7 E eQ (ahY A2 ls.length c2 _ _ (St.rd 7 uO E) (acR ls) hb2) ?_;rintro _ w39 ⟨O,Z,rfl,arp,aDJ⟩;refine⟨_,E,?_⟩;have zG:=uO.xB arp aDJ;refine aP 4 ?_;refine bG 11 ?_;refine snz 11 E 2 zG kQ ?_ (hs:=by exact LK);intro U4 tO;refine aP 4 ?_;refine bG 15 ?_;refine snz 15 E 2 tO kQ ?_ (hs:=by exact LM);intro w49 AA;refine aP 2 ?_;refine zN 3 ?_;refine Nl (k:=3) AA (wn E) E E E ?_;intro b51 w52 Az;refine zQ ?_;refine vv MQ ?_;refine mP (e:=221) 0 Az (wn E) E E E E E E underlying3 underlying222 dQ dQ ?_;intro w54 zh;refine zQ ?_;refine vv MQ ?_;refine mP (e:=221) 0 zh (wn E) E E E E E E underlying3 underlying222 dQ dQ ?_;intro w56 yR;refine zQ ?_;refine vv MQ ?_;refine mP (e:=221) 0 yR (wn E) E E E E E E underlying3 underlying222 dQ dQ ?_;intro w58 Ez;refine zQ ?_;refine vv MQ ?_;refine mP (e:=221) 0 Ez (wn E) E E E E E E underlying3 underlying222 dQ dQ ?_;intro w60 KO;refine zN 3 ?_
   rcases(by omega:kd=1\/kd=2\/kd=3\/kd=4)with rfl|rfl|rfl|rfl
   ·refine vv (v:=.func (.func 115) #[pV h 0] #[]) (lV 0 KO E E E E underlying3 underlying222 (Tryz.zeroValue221 _) dQ E) ?_;refine zN 7 ?_;have MR:St w.heap.size w w60 [.Pj h (dU ep nx gv (.slice J rs.length M) (.slice O ls.length Z) W) 214,.own 217 2 (.slice J rs.length M) rs.length ((rs).flatMap iK.cells),.own 220 4 (.slice O ls.length Z) ls.length ((ls).flatMap Ls.cells),.loc b51 (tq prog 3 (λy=>if y=4 then some (.func (.func 118) #[pV h 0] #[])else(λy=>if y=3 then some (.func (.func 117) #[pV h 0] #[])else(λy=>if y=2 then some (.func (.func 116) #[pV h 0] #[])else(λy=>if y=1 then some (.func (.func 115) #[pV h 0] #[])else(λ_=>none) y) y) y) y) 4),.Pj b10 #[D 0,D 0,D 0,D 0] 109,.Pj b7 (dU 0 0 0 (.slice none 0 0) (.slice none 0 0) kX) 178,.Pj b4 #[D 1,D (k:Int),D id,D bd,D he,D hn] 53,.Pj b1 (dU ep nx gv (.slice A1 rs.length c1) (.slice A2 ls.length c2) W) 178,.rd 2 A1 rs.length ((rs).flatMap iK.cells),.rd 4 A2 ls.length ((ls).flatMap Ls.cells)]:=KO.re [3,2,1,0,4,5,6,7,8,9] dQ;have HC:=adK (kd:=1) (k:=k) (id:=id) (bd:=bd) (he:=he) (hn:=hn) MR hk Y Y Y Y;rw[<-show QT ⟨ep,nx,gv,rs,ls,W⟩ ⟨1,(k:Int),id,bd,he,hn⟩=Et ⟨ep,nx,gv,rs,ls,W⟩ k id bd from by simp[QT]]at HC;obtain⟨R,I⟩:∃R,QT ⟨ep,nx,gv,rs,ls,W⟩ ⟨1,(k:Int),id,bd,he,hn⟩=R:=⟨_,E⟩;rw[I]at HC;refine zn eQ (HC) ?_;rintro _ w67 ⟨rfl,A63,c64,A65,c66,Fu⟩;refine⟨_,E,?_⟩;refine zN 3 ?_;refine iL Fu wM ?_;intro b69 w70 wo;refine sa 0 wo kQ ?_;intro w72 xu;refine zN 4 ?_;have Ru:=xu.drew;refine aO 10 Ru [6,5] ?_;refine aP 6 ?_;refine bG 6 ?_;refine snq 6 E 6 Ru kQ ?_;intro w81 S82;refine eH ?_;refine bG 7 ?_;refine sn 7 E 5 S82 kQ ?_;intro w83 Jp;refine aP 4 ?_;refine zN 2 ?_;refine fB (rs:=[.cell 4 178,.cell 5 109,.tmp 6,.tmp 7]) (vs:=[.agg (dU R.1.ep R.1.nx R.1.gv (.slice A63 R.1.ready.length c64) (.slice A65 R.1.cB.length c66) R.1.ws),.agg #[D R.2.1.code,D R.2.1.iB,D R.2.1.Qz,D R.2.1.body],.bool R.2.2,D 0]) E ⟨⟨_,E,fZ 6 Jp E Tryz.underlying178 E kQ⟩,⟨_,E,fZ 5 Jp E Tryz.underlying109 E kQ⟩,E,E,trivial⟩ ?_;have Ga:=Jp.bg [10,9,8,7,6,5,4,1,0];rw[Cr (Q:=⟨ep,nx,gv,rs,ls,W⟩) h0 h1,I];exact⟨A63,c64,A65,c66,E,Ga⟩
   ·refine vv (v:=.func (.func 116) #[pV h 0] #[]) (lV 0 KO E E E E underlying3 underlying222 (Tryz.zeroValue221 _) dQ E) ?_;refine zN 7 ?_;have Ql:St w.heap.size w w60 [.Pj h (dU ep nx gv (.slice J rs.length M) (.slice O ls.length Z) W) 214,.own 217 2 (.slice J rs.length M) rs.length ((rs).flatMap iK.cells),.own 220 4 (.slice O ls.length Z) ls.length ((ls).flatMap Ls.cells),.loc b51 (tq prog 3 (λy=>if y=4 then some (.func (.func 118) #[pV h 0] #[])else(λy=>if y=3 then some (.func (.func 117) #[pV h 0] #[])else(λy=>if y=2 then some (.func (.func 116) #[pV h 0] #[])else(λy=>if y=1 then some (.func (.func 115) #[pV h 0] #[])else(λ_=>none) y) y) y) y) 4),.Pj b10 #[D 0,D 0,D 0,D 0] 109,.Pj b7 (dU 0 0 0 (.slice none 0 0) (.slice none 0 0) kX) 178,.Pj b4 #[D 2,D (k:Int),D id,D bd,D he,D hn] 53,.Pj b1 (dU ep nx gv (.slice A1 rs.length c1) (.slice A2 ls.length c2) W) 178,.rd 2 A1 rs.length ((rs).flatMap iK.cells),.rd 4 A2 ls.length ((ls).flatMap Ls.cells)]:=KO.re [3,2,1,0,4,5,6,7,8,9] dQ;have HC:=adO (kd:=2) (k:=k) (id:=id) (bd:=bd) (he:=he) (hn:=hn) Ql hk Y Y Y Y;rw[<-show QT ⟨ep,nx,gv,rs,ls,W⟩ ⟨2,(k:Int),id,bd,he,hn⟩=J2 ⟨ep,nx,gv,rs,ls,W⟩from by simp[QT]]at HC;obtain⟨R,I⟩:∃R,QT ⟨ep,nx,gv,rs,ls,W⟩ ⟨2,(k:Int),id,bd,he,hn⟩=R:=⟨_,E⟩;rw[I]at HC;refine zn eQ (HC) ?_;rintro _ w93 ⟨rfl,A89,c90,A91,c92,KN⟩;refine⟨_,E,?_⟩;refine zN 3 ?_;refine iL KN wM ?_;intro b95 w96 Gb;refine sa 0 Gb kQ ?_;intro w98 S99;refine zN 4 ?_;have xM:=S99.drew;refine aO 10 xM [6,5] ?_;refine aP 6 ?_;refine bG 6 ?_;refine snq 6 E 6 xM kQ ?_;intro aDK yG;refine eH ?_;refine bG 7 ?_;refine sn 7 E 5 yG kQ ?_;intro aeU uP;refine aP 4 ?_;refine zN 2 ?_;refine fB (rs:=[.cell 4 178,.cell 5 109,.tmp 6,.tmp 7]) (vs:=[.agg (dU R.1.ep R.1.nx R.1.gv (.slice A89 R.1.ready.length c90) (.slice A91 R.1.cB.length c92) R.1.ws),.agg #[D R.2.1.code,D R.2.1.iB,D R.2.1.Qz,D R.2.1.body],.bool R.2.2,D 0]) E ⟨⟨_,E,fZ 6 uP E Tryz.underlying178 E kQ⟩,⟨_,E,fZ 5 uP E Tryz.underlying109 E kQ⟩,E,E,trivial⟩ ?_;have yH:=uP.bg [10,9,8,7,6,5,4,1,0];rw[Cr (Q:=⟨ep,nx,gv,rs,ls,W⟩) h0 h1,I];exact⟨A89,c90,A91,c92,E,yH⟩
   ·refine vv (v:=.func (.func 117) #[pV h 0] #[]) (lV 0 KO E E E E underlying3 underlying222 (Tryz.zeroValue221 _) dQ E) ?_;refine zN 7 ?_;have EA:St w.heap.size w w60 [.Pj h (dU ep nx gv (.slice J rs.length M) (.slice O ls.length Z) W) 214,.own 217 2 (.slice J rs.length M) rs.length ((rs).flatMap iK.cells),.own 220 4 (.slice O ls.length Z) ls.length ((ls).flatMap Ls.cells),.loc b51 (tq prog 3 (λy=>if y=4 then some (.func (.func 118) #[pV h 0] #[])else(λy=>if y=3 then some (.func (.func 117) #[pV h 0] #[])else(λy=>if y=2 then some (.func (.func 116) #[pV h 0] #[])else(λy=>if y=1 then some (.func (.func 115) #[pV h 0] #[])else(λ_=>none) y) y) y) y) 4),.Pj b10 #[D 0,D 0,D 0,D 0] 109,.Pj b7 (dU 0 0 0 (.slice none 0 0) (.slice none 0 0) kX) 178,.Pj b4 #[D 3,D (k:Int),D id,D bd,D he,D hn] 53,.Pj b1 (dU ep nx gv (.slice A1 rs.length c1) (.slice A2 ls.length c2) W) 178,.rd 2 A1 rs.length ((rs).flatMap iK.cells),.rd 4 A2 ls.length ((ls).flatMap Ls.cells)]:=KO.re [3,2,1,0,4,5,6,7,8,9] dQ;have HC:=aeY (kd:=3) (k:=k) (id:=id) (bd:=bd) (he:=he) (hn:=hn) EA hk Y Y Y Y (auz hLs) (auA hLs);rw[<-show QT ⟨ep,nx,gv,rs,ls,W⟩ ⟨3,(k:Int),id,bd,he,hn⟩=Ip ⟨ep,nx,gv,rs,ls,W⟩ he hn from by simp[QT]]at HC;obtain⟨R,I⟩:∃R,QT ⟨ep,nx,gv,rs,ls,W⟩ ⟨3,(k:Int),id,bd,he,hn⟩=R:=⟨_,E⟩;rw[I]at HC;refine zn eQ (HC) ?_;rintro _ awz ⟨rfl,awC,c116,awD,awE,vR⟩;refine⟨_,E,?_⟩;refine zN 3 ?_;refine iL vR wM ?_;intro aM1 arx CY;refine sa 0 CY kQ ?_;intro awF VR;refine zN 4 ?_;have AJ:=VR.drew;refine aO 10 AJ [6,5] ?_;refine aP 6 ?_;refine bG 6 ?_;refine snq 6 E 6 AJ kQ ?_;intro ae2 CZ;refine eH ?_;refine bG 7 ?_;refine sn 7 E 5 CZ kQ ?_;intro arq Ka;refine aP 4 ?_;refine zN 2 ?_;refine fB (rs:=[.cell 4 178,.cell 5 109,.tmp 6,.tmp 7]) (vs:=[.agg (dU R.1.ep R.1.nx R.1.gv (.slice awC R.1.ready.length c116) (.slice awD R.1.cB.length awE) R.1.ws),.agg #[D R.2.1.code,D R.2.1.iB,D R.2.1.Qz,D R.2.1.body],.bool R.2.2,D 0]) E ⟨⟨_,E,fZ 6 Ka E Tryz.underlying178 E kQ⟩,⟨_,E,fZ 5 Ka E Tryz.underlying109 E kQ⟩,E,E,trivial⟩ ?_;have EB:=Ka.bg [10,9,8,7,6,5,4,1,0];rw[Cr (Q:=⟨ep,nx,gv,rs,ls,W⟩) h0 h1,I];exact⟨awC,c116,awD,awE,E,EB⟩
   refine vv (v:=.func (.func 118) #[pV h 0] #[]) (lV 0 KO E E E E underlying3 underlying222 (Tryz.zeroValue221 _) dQ E) ?_;refine zN 7 ?_;have J7:St w.heap.size w w60 [.Pj h (dU ep nx gv (.slice J rs.length M) (.slice O ls.length Z) W) 214,.own 217 2 (.slice J rs.length M) rs.length ((rs).flatMap iK.cells),.own 220 4 (.slice O ls.length Z) ls.length ((ls).flatMap Ls.cells),.loc b51 (tq prog 3 (λy=>if y=4 then some (.func (.func 118) #[pV h 0] #[])else(λy=>if y=3 then some (.func (.func 117) #[pV h 0] #[])else(λy=>if y=2 then some (.func (.func 116) #[pV h 0] #[])else(λy=>if y=1 then some (.func (.func 115) #[pV h 0] #[])else(λ_=>none) y) y) y) y) 4),.Pj b10 #[D 0,D 0,D 0,D 0] 109,.Pj b7 (dU 0 0 0 (.slice none 0 0) (.slice none 0 0) kX) 178,.Pj b4 #[D 4,D (k:Int),D id,D bd,D he,D hn] 53,.Pj b1 (dU ep nx gv (.slice A1 rs.length c1) (.slice A2 ls.length c2) W) 178,.rd 2 A1 rs.length ((rs).flatMap iK.cells),.rd 4 A2 ls.length ((ls).flatMap Ls.cells)]:=KO.re [3,2,1,0,4,5,6,7,8,9] dQ;have HC:=aeZ (kd:=4) (k:=k) (id:=id) (bd:=bd) (he:=he) (hn:=hn) J7 hk Y Y Y Y (aoe hRd) hNd;rw[<-show QT ⟨ep,nx,gv,rs,ls,W⟩ ⟨4,(k:Int),id,bd,he,hn⟩=Iq ⟨ep,nx,gv,rs,ls,W⟩from by simp[QT]]at HC;obtain⟨R,I⟩:∃R,QT ⟨ep,nx,gv,rs,ls,W⟩ ⟨4,(k:Int),id,bd,he,hn⟩=R:=⟨_,E⟩;rw[I]at HC;refine zn eQ (HC) ?_;rintro _ awG ⟨rfl,aln,alo,ae3,ae4,Iy⟩;refine⟨_,E,?_⟩;refine zN 3 ?_;refine iL Iy wM ?_;intro awH awI zq;refine sa 0 zq kQ ?_;intro awJ Rx;refine zN 4 ?_;have LY:=Rx.drew;refine aO 10 LY [6,5] ?_;refine aP 6 ?_;refine bG 6 ?_;refine snq 6 E 6 LY kQ ?_;intro awK LZ;refine eH ?_;refine bG 7 ?_;refine sn 7 E 5 LZ kQ ?_;intro aDL L6;refine aP 4 ?_;refine zN 2 ?_;refine fB (rs:=[.cell 4 178,.cell 5 109,.tmp 6,.tmp 7]) (vs:=[.agg (dU R.1.ep R.1.nx R.1.gv (.slice aln R.1.ready.length alo) (.slice ae3 R.1.cB.length ae4) R.1.ws),.agg #[D R.2.1.code,D R.2.1.iB,D R.2.1.Qz,D R.2.1.body],.bool R.2.2,D 0]) E ⟨⟨_,E,fZ 6 L6 E Tryz.underlying178 E kQ⟩,⟨_,E,fZ 5 L6 E Tryz.underlying109 E kQ⟩,E,E,trivial⟩ ?_;have BP:=L6.bg [10,9,8,7,6,5,4,1,0];rw[Cr (Q:=⟨ep,nx,gv,rs,ls,W⟩) h0 h1,I];exact⟨aln,alo,ae3,ae4,E,BP⟩
  refine zN 2 ?_;refine Fa (vv (v:=.agg (dU 0 0 0 (.slice none 0 0) (.slice none 0 0) kX)) yz ?_);refine zN 2 ?_;refine saq 1 zi kQ ?_;intro aDM awL;refine sa 0 awL kQ ?_;intro arz Pp;refine zN 6 ?_;refine fB (rs:=[.cell 4 178,.cell 5 109,.tmp 6,.tmp 7]) (vs:=[.agg (dU 0 0 0 (.slice none 0 0) (.slice none 0 0) kX),.agg #[D 0,D 0,D 0,D 0],.bool false,D (bJ ⟨kd,pr,id,bd,he,hn⟩)]) E ⟨⟨_,E,fZ 1 Pp E Tryz.underlying178 E kQ⟩,⟨_,E,fZ 0 Pp E Tryz.underlying109 E kQ⟩,E,E,trivial⟩ ?_;have ZR:=Pp.bg [5,4,3,2,1,0];rw[UY (Q:=⟨ep,nx,gv,rs,ls,W⟩) h0 h1];exact⟨none,0,none,0,E,Nv ZR⟩
 refine zN 2 ?_;refine Fa (vv (v:=.agg (dU 0 0 0 (.slice none 0 0) (.slice none 0 0) kX)) yz ?_);refine zN 2 ?_;refine saq 1 oJ kQ ?_;intro aDN arA;refine sa 0 arA kQ ?_;intro aDO ae5;refine zN 6 ?_;refine fB (rs:=[.cell 4 178,.cell 5 109,.tmp 6,.tmp 7]) (vs:=[.agg (dU 0 0 0 (.slice none 0 0) (.slice none 0 0) kX),.agg #[D 0,D 0,D 0,D 0],.bool false,D (iH ep nx gv rs ls W)]) E ⟨⟨_,E,fZ 1 ae5 E Tryz.underlying178 E kQ⟩,⟨_,E,fZ 0 ae5 E Tryz.underlying109 E kQ⟩,E,E,trivial⟩ ?_;have ZT:=ae5.bg [5,4,3,2,1,0];rw[PY (Q:=⟨ep,nx,gv,rs,ls,W⟩) h0];exact⟨none,0,none,0,E,Nv ZT⟩
end Go.Proofs.YtceeleolddkibaaGreatDoor
