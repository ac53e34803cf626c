import Derived.Shelf.SlicesG.Cmp
import Derived.Shelf.SlGeneric
import Derived.Ground.SlsfProg
import Derived.Ground.SlgcProg
import Derived.Scope
import Derived.Test.YtefabpdniidmbaaGreatDoorGd6f87
import Derived.Test.YtefabpdniidmbaaGreatDoorGf5e84
set_option linter.all false
set_option maxRecDepth 100000
set_option maxHeartbeats 8000000
namespace Go.Proofs.YtefabpdniidmbaaGreatDoor
open List Nat Go.Proofs.Tryz ChangeShapes WideShapes RowKit
structure gF where
 no:Int
 body:Int
 deriving DecidableEq
structure Ls where
 fO:Int
 Nc:Int
 Rk:gF
 deriving DecidableEq
structure kN where
 a:lq
 b:lq
 c:lq
 d:lq
 deriving DecidableEq
structure Qd where
 ep:Int
 nx:Int
 gv:Int
 ready:List gF
 bP:List Ls
 ws:kN
 deriving DecidableEq
def gF.cells(m:gF):List Value:=[D m.no,D m.body]
def Ls.cells(x:Ls):List Value:=[D x.fO,D x.Nc,D x.Rk.no,D x.Rk.body]
def kN.cells(x:kN):List Value:=x.a.cells++(x.b.cells++(x.c.cells++x.d.cells))
def kN.at(x:kN)(p:Nat):lq:=if p=0 then x.a else if p=1 then x.b else if p=2 then x.c else x.d
def kN.put(x:kN)(p:Nat)(y:lq):kN:=if p=0 then{x with a:=y}else if p=1 then{x with b:=y}else if p=2 then{x with c:=y}else{x with d:=y}
def kN.len(x:kN):x.cells.length=36:=rfl
def lq.len(x:lq):x.cells.length=9:=rfl
def dB(e n g:Int)(r l:Value)(W:kN):Array Value:=(D e::D n::D g::r::l::W.cells).toArray
def jI:kN:=⟨Bl,Bl,Bl,Bl⟩
section
variable {e n g:Int}{r l:Value}{W:kN}
def xU:(dB e n g r l W).size=41:=rfl
def yC:(dB e n g r l W)[0]? =some (D e):=rfl
def Bu:(dB e n g r l W)[1]? =some (D n):=rfl
def Bv:(dB e n g r l W)[2]? =some (D g):=rfl
def qh:(dB e n g r l W)[3]? =some r:=rfl
def tN:(dB e n g r l W)[4]? =some l:=rfl
def aks:∀(j:Nat) (u:Value),W.cells[j]? =some u->(dB e n g r l W)[5+j]? =some u:=mE (m:=36) E
def akt:∀(j:Nat) (u:Value),(W.at 0).cells[j]? =some u->(dB e n g r l W)[5+j]? =some u:=mE (m:=9) E
def aku:∀(j:Nat) (u:Value),(W.at 1).cells[j]? =some u->(dB e n g r l W)[14+j]? =some u:=mE (m:=9) E
def akv:∀(j:Nat) (u:Value),(W.at 2).cells[j]? =some u->(dB e n g r l W)[23+j]? =some u:=mE (m:=9) E
def akw:∀(j:Nat) (u:Value),(W.at 3).cells[j]? =some u->(dB e n g r l W)[32+j]? =some u:=mE (m:=9) E
def akx{z:Int}:dn (dB e n g r l W) 0 [D z]=dB z n g r l W:=rfl
def aky{z:Int}:dn (dB e n g r l W) 1 [D z]=dB e z g r l W:=rfl
def ZE{z:Int}:dn (dB e n g r l W) 2 [D z]=dB e n z r l W:=rfl
def IX{z:Value}:dn (dB e n g r l W) 3 [z]=dB e n g z l W:=rfl
def IY{z:Value}:dn (dB e n g r l W) 4 [z]=dB e n g r z W:=rfl
def akz{x:lq}:dn (dB e n g r l W) 5 x.cells=dB e n g r l (W.put 0 x):=by
 apply Array.toList_inj.1;rw[iC _ _ _ (by rw[xU,lq.len];omega)];rfl
def akA{x:lq}:dn (dB e n g r l W) 14 x.cells=dB e n g r l (W.put 1 x):=by
 apply Array.toList_inj.1;rw[iC _ _ _ (by rw[xU,lq.len];omega)];rfl
def akB{x:lq}:dn (dB e n g r l W) 23 x.cells=dB e n g r l (W.put 2 x):=by
 apply Array.toList_inj.1;rw[iC _ _ _ (by rw[xU,lq.len];omega)];rfl
def akC{x:lq}:dn (dB e n g r l W) 32 x.cells=dB e n g r l (W.put 3 x):=by
 apply Array.toList_inj.1;rw[iC _ _ _ (by rw[xU,lq.len];omega)];rfl
def IZ(x:lq):∀u∈x.cells,u.oneCell'=true:=bY E
def af9(x:kN):∀u∈x.cells,u.oneCell'=true:=bY E
def Kn(I:r.oneCell'=true)(J:l.oneCell'=true):∀u∈(dB e n g r l W).toList,u.oneCell'=true:=by
 intro u h;simp only[dB,mem_cons]at h
 rcases h with rfl|rfl|rfl|rfl|rfl|h
 ·rfl
 ·rfl
 ·rfl
 ·exact I
 ·exact J
 exact af9 W u h
end
def WX(w:World)(k:Int)(e:Ending)(w':World):Prop:=e=.returned (D k)/\Below w.heap.size w w'
def FM(w:World)(b:Bool)(e:Ending)(w':World):Prop:=e=.returned (.bool b)/\Below w.heap.size w w'
def rH(nx:Int)(m:gF):Bool:=decide (0<=m.no/\m.no<nx/\0<=m.body/\m.body<=1000000)
def xD{nx:Int}{m:gF}(h:rH nx m=true):0<=m.no/\m.no<nx/\0<=m.body/\m.body<=1000000:=of_decide_eq_true h
def ku(nx:Int):Int->List gF->Bool
 |_,[]=>true
 |p,m::r=>(rH nx m&&decide (p<m.no))&&ku nx m.no r
def Mh(ep nx gv p:Int)(x:Ls):Bool:=rH nx x.Rk&&decide (x.fO=ep/\p<x.Nc/\x.Nc<gv)
def lX(ep nx gv:Int):Int->List Ls->Bool
 |_,[]=>true
 |p,x::r=>Mh ep nx gv p x&&lX ep nx gv x.Nc r
def oh(rs:List gF)(ls:List Ls):List Int:=rs.map (·.no)++ls.map (·.Rk.no)
def R8(ep nx gv:Int)(rs:List gF)(ls:List Ls):Prop:=0<=ep/\ep<=1048576/\0<=nx/\nx<=1073741824/\0<=gv/\gv<=1073741824/\rs.length+ls.length<=500
def zM(W:kN):Prop:= ∀j,j<4->dO (W.at j)=0
open Classical in
noncomputable def gy(ep nx gv:Int)(rs:List gF)(ls:List Ls)(W:kN):Int:=
 if ¬R8 ep nx gv rs ls then 6 else if ¬zM W then 6 else if ku nx (-1) rs=true/\lX ep nx gv (-1) ls=true/\(oh rs ls).Nodup then 0 else 6
section
variable {ep nx gv p:Int}{rs:List gF}{ls:List Ls}{W:kN}
def CQ(h:¬(0<=ep/\ep<=1048576/\0<=nx/\nx<=1073741824/\0<=gv/\gv<=1073741824/\rs.length+ls.length<=500)):gy ep nx gv rs ls W=6:=if_pos h
def zO(h:¬(zM W/\ku nx (-1) rs=true/\lX ep nx gv (-1) ls=true/\(oh rs ls).Nodup)):gy ep nx gv rs ls W=6:=by
 unfold gy
 split
 ·rfl
 split
 ·rfl
 rename_i h1 I
 rw[if_neg (λJ=>h ⟨Classical.not_not.1 I,J⟩)]
def aqG{j:Nat}(I:j<4)(h:dO (W.at j)≠0):gy ep nx gv rs ls W=6:=zO λh1=>h (h1.1 j I)
def awi(I:R8 ep nx gv rs ls)(h1:zM W)(J:ku nx (-1) rs=true)(M:lX ep nx gv (-1) ls=true)(O:(oh rs ls).Nodup):gy ep nx gv rs ls W=0:=by
 unfold gy;rw[if_neg (λh=>h I),if_neg (λh=>h h1),if_pos ⟨J,M,O⟩]
def Ko{k:Nat}{m:gF}(h:rs[k]? =some m):ku nx p (rs.drop k)=((rH nx m&&decide (p<m.no))&&ku nx m.no (rs.drop (k+1))):=by
 obtain⟨I,J⟩:=List.getElem?_eq_some_iff.1 h;rw[drop_eq_getElem_cons I,J];rfl
def El{k:Nat}{x:Ls}(h:ls[k]? =some x):lX ep nx gv p (ls.drop k)=(Mh ep nx gv p x&&lX ep nx gv x.Nc (ls.drop (k+1))):=by
 obtain⟨I,J⟩:=List.getElem?_eq_some_iff.1 h;rw[drop_eq_getElem_cons I,J];rfl
def Kq{α β:Type}{f:α->β}{l:List α}{k:Nat}{x:α}(h:l[k]? =some x):(l.take k).map f++[f x]=(l.take (k+1)).map f:=by
 rw[take_add_one,h];simp
def akD(x:lq):dO x=0\/dO x=6:=by unfold dO;split<;>simp
end
def UJ(W:kN)(w:World):(Instr.index 181 (.agg W.cells.toArray) (D 0)).run prog w=.ok (.agg (W.at 0).cells.toArray) w:=kQ
def UK(W:kN)(w:World):(Instr.index 181 (.agg W.cells.toArray) (D 1)).run prog w=.ok (.agg (W.at 1).cells.toArray) w:=kQ
def UL(W:kN)(w:World):(Instr.index 181 (.agg W.cells.toArray) (D 2)).run prog w=.ok (.agg (W.at 2).cells.toArray) w:=kQ
def UM(W:kN)(w:World):(Instr.index 181 (.agg W.cells.toArray) (D 3)).run prog w=.ok (.agg (W.at 3).cells.toArray) w:=kQ
def Yd(W:kN)(k:Nat)(I:k<4)(w:World):(Instr.index 181 (.agg W.cells.toArray) (D k)).run prog w=.ok (.agg (W.at k).cells.toArray) w:=by
 have h:k=0\/k=1\/k=2\/k=3:=Y
 rcases h with rfl|rfl|rfl|rfl
 ·exact UJ W w
 ·exact UK W w
 ·exact UL W w
 exact UM W w
def akE{e n g:Int}{r l:Value}{W:kN}{k:Nat}(I:k<4):∀(j:Nat) (u:Value),(W.at k).cells[j]? =some u->(dB e n g r l W)[5+k*9+j]? =some u:=by
 have h:k=0\/k=1\/k=2\/k=3:=Y
 rcases h with rfl|rfl|rfl|rfl
 ·exact akt
 ·exact aku
 ·exact akv
 exact akw
def jB{α:Type}{enc:α->List Value}{l l':List α}{x:α}{cs:List Value}(h:l++[x]=l')(he:enc x=cs):l.flatMap enc++cs=l'.flatMap enc:=by
 subst h;subst he;simp
structure iW where
 code:Int
 fO:Int
 Nc:Int
 body:Int
 deriving DecidableEq
def eU:iW:=⟨0,0,0,0⟩
def sK(k:Int):iW:=⟨k,0,0,0⟩
def iW.cells(a:iW):List Value:=[D a.code,D a.fO,D a.Nc,D a.body]
def iW.val(a:iW):Value:=.agg #[D a.code,D a.fO,D a.Nc,D a.body]
def BU(Q:Qd)(k:Nat)(id bd:Int):Qd×iW×Bool:=
 if (jh (Q.ws.at k) id).2.2≠0 then(Q,sK (jh (Q.ws.at k) id).2.2,false)
 else if (jh (Q.ws.at k) id).2.1=false then(Q,eU,false)
 else if Q.ready.length+Q.bP.length=500\/Q.nx=1073741824 then(Q,sK 14,false)
 else(⟨Q.ep,Q.nx+1,Q.gv,Q.ready++[⟨Q.nx,bd⟩],Q.bP,Q.ws.put k (jh (Q.ws.at k) id).1⟩,eU,true)
def GA(Q:Qd):Qd×iW×Bool:=match Q.ready with
 |[]=>(Q,sK 10,false)
 |m::rest=>if Q.gv=1073741824 then(Q,sK 14,false)else(⟨Q.ep,Q.nx,Q.gv+1,rest,Q.bP++[⟨Q.ep,Q.gv,m⟩],Q.ws⟩,⟨0,Q.ep,Q.gv,m.body⟩,true)
def EL(Q:Qd)(he hn:Int):Qd×iW×Bool:=
 if he≠Q.ep then(Q,sK 11,false)
 else if (Q.bP.filter λx=>decide (x.Nc≠hn)).length=Q.bP.length then(Q,sK 7,false)
 else(⟨Q.ep,Q.nx,Q.gv,Q.ready,Q.bP.filter λx=>decide (x.Nc≠hn),Q.ws⟩,eU,true)
def kC(m:gF):List gF->List gF
 |[]=>[m]
 |x::l=>if m.no<x.no then m::x::l else x::kC m l
def EM(Q:Qd):Qd×iW×Bool:=
 if Q.ep=1048576 then(Q,sK 14,false)
 else(⟨Q.ep+1,Q.nx,0,Q.bP.foldl (λl x=>kC x.Rk l) Q.ready,[],Q.ws⟩,eU,true)
section
variable {ep nx gv bd id he hn:Int}{rs:List gF}{ls:List Ls}{W:kN}{k:Nat}
def akF(h:¬(jh (W.at k) id).2.2=0):BU ⟨ep,nx,gv,rs,ls,W⟩ k id bd=(⟨ep,nx,gv,rs,ls,W⟩,sK (jh (W.at k) id).2.2,false):=if_pos h
def akG(h:(jh (W.at k) id).2.2=0)(h1:(jh (W.at k) id).2.1=false):BU ⟨ep,nx,gv,rs,ls,W⟩ k id bd=(⟨ep,nx,gv,rs,ls,W⟩,eU,false):=by
 unfold BU;rw[if_neg (λI=>I h),if_pos h1]
def SS(h:(jh (W.at k) id).2.2=0)(h1:(jh (W.at k) id).2.1=true)(I:rs.length+ls.length=500\/nx=1073741824):BU ⟨ep,nx,gv,rs,ls,W⟩ k id bd=(⟨ep,nx,gv,rs,ls,W⟩,sK 14,false):=by
 unfold BU;rw[if_neg (λI=>I h),if_neg (λJ=>by rw[h1]at J;cases J),if_pos I]
def aqH(h:(jh (W.at k) id).2.2=0)(h1:(jh (W.at k) id).2.1=true)(I:¬(rs.length+ls.length=500\/nx=1073741824)):BU ⟨ep,nx,gv,rs,ls,W⟩ k id bd=(⟨ep,nx+1,gv,rs++[⟨nx,bd⟩],ls,W.put k (jh (W.at k) id).1⟩,eU,true):=by
 unfold BU;rw[if_neg (λI=>I h),if_neg (λJ=>by rw[h1]at J;cases J),if_neg I]
def aga(h:rs.length=0):GA ⟨ep,nx,gv,rs,ls,W⟩=(⟨ep,nx,gv,rs,ls,W⟩,sK 10,false):=by
 cases rs with
 |nil=>rfl
 |cons m r=>simp at h
def agb(h:¬rs.length=0)(h1:gv=1073741824):GA ⟨ep,nx,gv,rs,ls,W⟩=(⟨ep,nx,gv,rs,ls,W⟩,sK 14,false):=by
 cases rs with
 |nil=>simp at h
 |cons m r=>exact if_pos h1
def aqI{m:gF}(h:rs[0]? =some m)(h1:¬gv=1073741824):GA ⟨ep,nx,gv,rs,ls,W⟩=(⟨ep,nx,gv+1,rs.drop 1,ls++[⟨ep,gv,m⟩],W⟩,⟨0,ep,gv,m.body⟩,true):=by
 cases rs with
 |nil=>simp at h
 |cons m r=>
  simp at h;subst h;exact if_neg h1
def abd(h:¬he=ep):EL ⟨ep,nx,gv,rs,ls,W⟩ he hn=(⟨ep,nx,gv,rs,ls,W⟩,sK 11,false):=if_pos h
def agc(h:he=ep)(h1:(ls.filter λx=>decide (x.Nc≠hn)).length=ls.length):EL ⟨ep,nx,gv,rs,ls,W⟩ he hn=(⟨ep,nx,gv,rs,ls,W⟩,sK 7,false):=by
 unfold EL;rw[if_neg (λI=>I h),if_pos h1]
def aqJ(h:he=ep)(h1:¬(ls.filter λx=>decide (x.Nc≠hn)).length=ls.length):EL ⟨ep,nx,gv,rs,ls,W⟩ he hn=(⟨ep,nx,gv,rs,ls.filter λx=>decide (x.Nc≠hn),W⟩,eU,true):=by
 unfold EL;rw[if_neg (λI=>I h),if_neg h1]
def agf(h:ep=1048576):EM ⟨ep,nx,gv,rs,ls,W⟩=(⟨ep,nx,gv,rs,ls,W⟩,sK 14,false):=if_pos h
def aqK(h:¬ep=1048576):EM ⟨ep,nx,gv,rs,ls,W⟩=(⟨ep+1,nx,0,ls.foldl (λl x=>kC x.Rk l) rs,[],W⟩,eU,true):=if_neg h
end
def akH{e n g:Int}{r l:Value}{W:kN}{x:lq}{k:Nat}(h:k<4):dn (dB e n g r l W) (5+k*9) x.cells=dB e n g r l (W.put k x):=by
 match k,h with
 | 0,_=>exact akz
 | 1,_=>exact akA
 | 2,_=>exact akB
 | 3,_=>exact akC
def EN(B:Nat)(w0:World)(g:Nat)(fs:List J8)(r:Qd×iW×Bool)(e:Ending)(w':World):Prop:=
 e=.returned (.tuple #[r.2.1.val,.bool r.2.2])/\ ∃A1 c1 A2 c2,St B w0 w' (.Mg g (dB r.1.ep r.1.nx r.1.gv (.slice A1 r.1.ready.length c1) (.slice A2 r.1.bP.length c2) r.1.ws) 219:: .cZ 2 A1 r.1.ready.length (r.1.ready.flatMap gF.cells):: .cZ 4 A2 r.1.bP.length (r.1.bP.flatMap Ls.cells)::fs)
section
section
open Go.Shelf Go.RowKit Go.Lib Go.Sort
def UN:Go.Shelf.Ren:=⟨λ| 6=>131| 15=>136| 14=>135| 28=>146| 29=>147| 20=>138| 21=>139| 22=>140| 23=>141| 24=>142| 25=>143| 26=>144| 27=>145| 46=>149| 47=>150| 48=>151| 49=>152| 50=>153| 57=>154|n=>n,λ| 22=>176| 24=>222| 25=>239| 3=>3| 39=>166| 0=>0| 53=>253| 55=>255| 4=>4| 46=>247| 45=>246| 50=>58| 5=>5| 9=>9| 66=>256| 70=>112| 76=>261| 77=>81|n=>n,λ|n=>n⟩
def ZF:Go.Proofs.SlLaysF0.n6 prog UN:={
 mixed:=kQ
 f6:=⟨Tryz.f131.name,by decide,Tryz.func131.trans (congrArg some kQ)⟩
 f14:=⟨Tryz.f135.name,by decide,Tryz.func135.trans (congrArg some kQ)⟩
 f15:=Tryz.func136.trans (congrArg some kQ)
 f20:=⟨Tryz.f138.name,by decide,Tryz.func138.trans (congrArg some kQ)⟩
 f21:=⟨Tryz.f139.name,by decide,Tryz.func139.trans (congrArg some kQ)⟩
 f22:=⟨Tryz.f140.name,by decide,Tryz.func140.trans (congrArg some kQ)⟩
 f23:=⟨Tryz.f141.name,by decide,Tryz.func141.trans (congrArg some kQ)⟩
 f24:=⟨Tryz.f142.name,by decide,Tryz.func142.trans (congrArg some kQ)⟩
 f25:=⟨Tryz.f143.name,by decide,Tryz.func143.trans (congrArg some kQ)⟩
 f26:=⟨Tryz.f144.name,by decide,Tryz.func144.trans (congrArg some kQ)⟩
 f27:=⟨Tryz.f145.name,by decide,Tryz.func145.trans (congrArg some kQ)⟩
 f28:=Tryz.func146.trans (congrArg some kQ)
 f29:=Tryz.func147.trans (congrArg some kQ)
 f46:=⟨Tryz.f149.name,by decide,Tryz.func149.trans (congrArg some kQ)⟩
 f47:=Tryz.func150.trans (congrArg some kQ)
 f48:=Tryz.func151.trans (congrArg some kQ)
 f49:=⟨Tryz.f152.name,by decide,Tryz.func152.trans (congrArg some kQ)⟩
 f50:=⟨Tryz.f153.name,by decide,Tryz.func153.trans (congrArg some kQ)⟩
 f57:=⟨Tryz.f154.name,by decide,Tryz.func154.trans (congrArg some kQ)⟩
 t0:=Tryz.underlying0
 a0:=Tryz.isAgg0
 z0:=Tryz.sizeOf0
 v0:=Tryz.zeroValue0
 t3:=underlying3
 a3:=Tryz.isAgg3
 z3:=Tryz.sizeOf3
 v3:=zeroValue3
 t4:=underlying4
 a4:=Tryz.isAgg4
 z4:=Tryz.sizeOf4
 v4:=Tryz.zeroValue4
 t5:=underlying5
 a5:=Tryz.isAgg5
 z5:=Tryz.sizeOf5
 v5:=Tryz.zeroValue5
 t9:=Tryz.underlying9
 a9:=Tryz.isAgg9
 z9:=Tryz.sizeOf9
 v9:=Tryz.zeroValue9
 t22:=underlying176
 a22:=Tryz.isAgg176
 z22:=Tryz.sizeOf176
 v22:=Tryz.zeroValue176
 t25:=Tryz.underlying239
 a25:=Tryz.isAgg239
 z25:=Tryz.sizeOf239
 v25:=Tryz.zeroValue239
 t39:=Tryz.underlying166
 a39:=Tryz.isAgg166
 z39:=Tryz.sizeOf166
 v39:=Tryz.zeroValue166
 t45:=Tryz.underlying246
 a45:=Tryz.isAgg246
 z45:=Tryz.sizeOf246
 v45:=Tryz.zeroValue246
 t46:=Tryz.underlying247
 a46:=Tryz.isAgg247
 z46:=Tryz.sizeOf247
 v46:=Tryz.zeroValue247
 t50:=Tryz.underlying58
 a50:=Tryz.isAgg58
 z50:=Tryz.sizeOf58
 v50:=Tryz.zeroValue58
 t53:=Tryz.underlying253
 a53:=Tryz.isAgg253
 z53:=Tryz.sizeOf253
 v53:=Tryz.zeroValue253
 t55:=Tryz.underlying255
 a55:=Tryz.isAgg255
 z55:=Tryz.sizeOf255
 v55:=Tryz.zeroValue255
 t66:=Tryz.underlying256
 a66:=Tryz.isAgg256
 z66:=Tryz.sizeOf256
 v66:=Tryz.zeroValue256
 t70:=underlying112
 a70:=Tryz.isAgg112
 z70:=Tryz.sizeOf112
 v70:=Tryz.zeroValue112
 t76:=Tryz.underlying261
 a76:=Tryz.isAgg261
 z76:=Tryz.sizeOf261
 v76:=Tryz.zeroValue261
 t77:=Tryz.underlying81
 a77:=Tryz.isAgg81
 z77:=Tryz.sizeOf81
 v77:=Tryz.zeroValue81}
def Ye:Go.Shelf.Ren:=⟨λ| 5=>137| 7=>148|n=>n,λ| 22=>3| 3=>3| 4=>4|n=>n,λ|n=>n⟩
def aqL:Go.Proofs.SlLaysC2.n5 prog Ye:={
 mixed:=kQ
 f5:=⟨Tryz.f137.name,by decide,Tryz.func137.trans (congrArg some kQ)⟩
 f7:=⟨Tryz.f148.name,by decide,Tryz.func148.trans (congrArg some kQ)⟩
 t3:=underlying3
 a3:=Tryz.isAgg3
 z3:=Tryz.sizeOf3
 v3:=zeroValue3
 t4:=underlying4
 a4:=Tryz.isAgg4
 z4:=Tryz.sizeOf4
 v4:=Tryz.zeroValue4
 t22:=underlying3
 a22:=Tryz.isAgg3
 z22:=Tryz.sizeOf3
 v22:=zeroValue3}
end
open Go.Shelf
open ChangeAt
open Go.Sort (HoldsK PermIn SortedIn SWO grow)
instance:Inhabited gF:=⟨⟨0,0⟩⟩
def MK(x y:gF):Int:=Lib.compareInt x.no y.no
def ah9(x y:gF):ltOf MK x y=decide (x.no<y.no):=by
 unfold ltOf MK Lib.compareInt;by_cases h1:x.no<y.no
 ·simp[h1]
 by_cases h:y.no<x.no<;>simp[h1,h]
def awj:SWO (ltOf MK) where
 irrefl x:=by rw[ah9];simp
 trans x y z h1 h2:=by rw[ah9]at*;simp at*;omega
 ntrans x y z h1 h2:=by rw[ah9]at*;simp at*;omega
def Yf(x y:gF)(W:World):Calls prog 132 #[.agg #[.int .i64 x.no,.int .i64 x.body],.agg #[.int .i64 y.no,.int .i64 y.body]] W λe w'=>e=.returned (.int .i64 (MK x y))/\ ∃q os',w'=grow (W.drewN q) os':=by
 have hcon:=λW'=>AnyG.cmp_Compare_int aqL x.no y.no W';change ∀W',Calls prog 137 _ _ _ at hcon;unfold MK;generalize Lib.compareInt x.no y.no=r at hcon⊢
 go_enter Tryz.func132,Tryz.ntmps132
 go_wp2_with (go_at_call 137;refine(hcon _).mono ?_;rintro e w' ⟨rfl,rfl⟩)
 go_ret
 exact⟨E,0,_,by rw[Go.Sort.alloc_eq_grow,Go.Sort.alloc_eq_grow,Go.Sort.grow_grow];rfl⟩
def aqM:∀w,(isAgg 222).run prog w=.ok true w:=by
 intro w;simp[isAgg,run_underlying underlying222,Sem.run_bind,Result.andThen]
def akI:∀w,(Go.sizeOf 222).run prog w=.ok 2 w:=by
 intro w;obtain⟨z,I,hs⟩:∃z,prog.info? 222=some z/\z.size=2:=by
  have h:=ams
  cases hi:prog.info? 222 with
  |none=>simp[hi]at h
  |some z=>exact⟨z,E,by simpa[hi]using h⟩
 simp[sizeOf,typeInfo,I,hs,Sem.run_bind,Result.andThen]
def rJ(l:List gF):Prop:=l.Pairwise λa b=>a.no<=b.no
def UO(A:Option Addr)(c:Nat)(rs:List gF)(w:World){B:Nat}(J:w.ownsRow B 222 2 (.slice A rs.length c) rs.length (rs.flatMap gF.cells))(hl:rs.length<=1000000):
 Calls prog 131 #[.slice A rs.length c,.func (.func 132) #[] #[]] w λe w'=>e=.returned (.tuple #[])/\ ∃d:List gF,d.Perm rs/\rJ d/\
   w'.ownsRow B 222 2 (.slice A rs.length c) rs.length (d.flatMap gF.cells)/\w.grownBy w' (Value.slice A rs.length c).ownBlock:=by
 rcases eq_zero_or_pos rs.length with M|M
 ·have e0:rs=[]:=length_eq_zero_iff.1 M;subst e0;refine(AnyF.slices_SortFunc_none ZF A c (.func (.func 132) #[] #[]) w).mono ?_;rintro e w' ⟨rfl,rfl⟩;exact⟨E,[],Perm.refl _,Pairwise.nil,J,⟨E,E,E,Nat.le_refl _,λ_ _ _=>E⟩⟩
 obtain⟨g,rfl⟩:=EJ J M;have hg:g<w.heap.size:=EC J g E;have hH:=aaZ (enc:=gF.cells) (k:=2) (λ_=>E) J E;have I:=AnyQ.slices_SortFunc ZF 2 aqM akI gF.cells (λ_=>E) (λx v hv=>by simp[gF.cells]at hv;rcases hv with rfl|rfl<;>rfl) MK awj 132 #[] g 0 c rs.toArray w eQ (λ_ _ _ _ x y=>Yf x y _) hH hg jQ;change Calls prog 131 _ _ _ at I;rw[size_toArray]at I;refine I.mono ?_;rintro e w' ⟨rfl,d',m,os,hp,hs,rfl⟩;obtain⟨p1,_,p3⟩:=hp
 replace p1:d'.size=rs.length:=p1
 obtain⟨q1,q2⟩:=X7 (enc:=gF.cells) (k:=2) (d':=d') (m:=m) (os:=os) (λ_=>E) J p1;refine⟨E,d'.toList,?_,?_,q1,q2⟩
 ·have e1:d'.extract 0 rs.length=d':=by rw[<-p1];exact Array.extract_size
  have e2:rs.toArray.extract 0 rs.length=rs.toArray:=by simp
  rw[e1,e2]at p3;simpa using p3
 unfold rJ;rw[pairwise_iff_getElem];intro i j hi Z O;rw[Array.length_toList]at hi Z;have h:=hs i j (zero_le _) O Y;rw[ah9,getElem!_pos d' j Z,getElem!_pos d' i hi]at h;simp only[Array.getElem_toList];simpa using h
def BK(m:gF):∀l:List gF,(kC m l).Perm (m::l)
 |[]=>Perm.refl _
 |x::l=>by
  unfold kC
  split
  ·exact Perm.refl _
  exact((BK m l).cons x).trans (Perm.swap m x l)
def Lb{m:gF}:∀ {l:List gF},rJ l->rJ (kC m l)
 |[],_=>by simp[kC,rJ]
 |x::l,h=>by
  obtain⟨h1,M⟩:=pairwise_cons.1 h;unfold kC
  split
  ·rename_i I
   refine pairwise_cons.2 ⟨λy J=>?_,h⟩
   rcases mem_cons.1 J with e|e
   ·rw[e];omega
   have:=h1 y e;omega
  rename_i I
  refine pairwise_cons.2 ⟨λy J=>?_,Lb M⟩
  rcases mem_cons.1 ((BK m l).mem_iff.1 J)with e|e
  ·rw[e];omega
  exact h1 y e
def GD:∀(ls:List Ls) (rs:List gF),(ls.foldl (λl x=>kC x.Rk l) rs).Perm (rs++ls.map (·.Rk))
 |[],rs=>by simp
 |x::ls,rs=>by
  rw[foldl_cons,map_cons];refine(GD ls (kC x.Rk rs)).trans ?_;refine((BK x.Rk rs).append_right _).trans ?_;rw[cons_append];exact perm_middle.symm
def SV:∀(ls:List Ls) {rs:List gF},rJ rs->rJ (ls.foldl (λl x=>kC x.Rk l) rs)
 |[],_,h=>h
 |_::ls,_,h=>SV ls (Lb h)
def agh{rs d:List gF}{ls:List Ls}(Z:d.Perm (rs++ls.map (·.Rk)))(ha:rJ d)(hA:rJ rs)(hN:(oh rs ls).Nodup):d=ls.foldl (λl x=>kC x.Rk l) rs:=by
 have hF:=GD ls rs;have hnd:((rs++ls.map (·.Rk)).map (·.no)).Nodup:=by
  unfold oh at hN;rw[map_append,map_map];exact hN
 refine Perm.eq_of_pairwise (le:=λa b:gF=>a.no<=b.no) (λa b I J h1 h2=>?_) ha (SV ls hA) (Z.trans hF.symm);have m1:=Z.mem_iff.1 I;have m2:=hF.mem_iff.1 J;have e:a.no=b.no:=Y;have:=pairwise_map.1 hnd;obtain⟨i,hi,M⟩:=getElem_of_mem m1;obtain⟨j,hj,O⟩:=getElem_of_mem m2;rw[pairwise_iff_getElem]at this
 rcases Nat.lt_trichotomy i j with h|h|h
 ·exact absurd (by rw[M,O];exact e) (this i j hi hj h)
 ·subst h;rw[<-M,<-O]
 exact absurd (by rw[M,O];exact e.symm) (this j i hj hi h)
end
def dV:Qd:=⟨0,0,0,[],[],jI⟩
def Qd.row(Q:Qd)(A1:Option Addr)(c1:Nat)(A2:Option Addr)(c2:Nat):Array Value:=dB Q.ep Q.nx Q.gv (.slice A1 Q.ready.length c1) (.slice A2 Q.bP.length c2) Q.ws
noncomputable def Qd.Rj(Q:Qd):Int:=gy Q.ep Q.nx Q.gv Q.ready Q.bP Q.ws
def Nu(Q:Qd)(e:Ev):Qd×iW×Bool:=
 if e.kind=1 then BU Q e.Mr.toNat e.id e.body else if e.kind=2 then GA Q else if e.kind=3 then EL Q e.MF e.Nc else EM Q
noncomputable def iO(Q:Qd)(e:Ev):Qd×iW×Bool×Int:=
 if Q.Rj≠0 then(dV,eU,false,Q.Rj)else if aZ e≠0 then(dV,eU,false,aZ e)else((Nu Q e).1,(Nu Q e).2.1,(Nu Q e).2.2,0)
def akJ(w:World)(r:Qd×iW×Bool×Int)(e:Ending)(w':World):Prop:= ∃A1 c1 A2 c2,e=.returned (.tuple #[.agg (dB r.1.ep r.1.nx r.1.gv (.slice A1 r.1.ready.length c1) (.slice A2 r.1.bP.length c2) r.1.ws),r.2.1.val,.bool r.2.2.1,.int .i64 r.2.2.2])/\
 St w.heap.size w w' [.cZ 2 A1 r.1.ready.length (r.1.ready.flatMap gF.cells),.cZ 4 A2 r.1.bP.length (r.1.bP.flatMap Ls.cells)]
section
variable {ep nx gv p:Int}{rs:List gF}{ls:List Ls}{W:kN}
def P8(h:gy ep nx gv rs ls W=0):R8 ep nx gv rs ls/\zM W/\ku nx (-1) rs=true/\lX ep nx gv (-1) ls=true/\(oh rs ls).Nodup:=by
 unfold gy at h
 split at h
 ·cases h
 split at h
 ·cases h
 split at h
 ·rename_i h1 I J
  exact⟨Classical.not_not.1 h1,Classical.not_not.1 I,J⟩
 cases h
def aeG:∀ {rs:List gF} {p:Int},ku nx p rs=true->(∀x∈rs,p<x.no)/\rs.Pairwise λa b=>a.no<b.no
 |[],_,_=>⟨λx I=>by simp at I,Pairwise.nil⟩
 |m::r,p,h=>by
  simp only[ku,Bool.and_eq_true,decide_eq_true_eq]at h;obtain⟨⟨_,h1⟩,M⟩:=h;obtain⟨J,O⟩:=aeG M;refine⟨λx I=>?_,pairwise_cons.2 ⟨J,O⟩⟩
  rcases mem_cons.1 I with rfl|I
  ·exact h1
  exact Int.lt_trans h1 (J x I)
def akK(h:ku nx (-1) rs=true):rJ rs:=(aeG h).2.imp λh=>Int.le_of_lt h
def ad9:∀ {ls:List Ls} {p:Int},lX ep nx gv p ls=true->(∀x∈ls,x.fO=ep/\p<x.Nc)/\ls.Pairwise λa b=>a.Nc<b.Nc
 |[],_,_=>⟨λx I=>by simp at I,Pairwise.nil⟩
 |m::r,p,h=>by
  simp only[lX,Mh,Bool.and_eq_true,decide_eq_true_eq]at h;obtain⟨⟨_,M,h1,_⟩,O⟩:=h;obtain⟨J,Z⟩:=ad9 O;refine⟨λx I=>?_,pairwise_cons.2 ⟨λx I=>(J x I).2,Z⟩⟩
  rcases mem_cons.1 I with rfl|I
  ·exact⟨M,h1⟩
  exact⟨(J x I).1,Int.lt_trans h1 (J x I).2⟩
def aqN(h:lX ep nx gv (-1) ls=true):∀x∈ls,x.fO=ep:=λx I=>((ad9 h).1 x I).1
def aqO(h:lX ep nx gv (-1) ls=true):∀(i j:Nat) (a b:Ls),ls[i]? =some a->ls[j]? =some b->a.Nc=b.Nc->i=j:=by
 have I:=(ad9 h).2;rw[pairwise_iff_getElem]at I;intro i j a b M O e;obtain⟨hi,rfl⟩:=List.getElem?_eq_some_iff.1 M;obtain⟨J,rfl⟩:=List.getElem?_eq_some_iff.1 O
 rcases Nat.lt_trichotomy i j with h1|h1|h1
 ·have:=I i j hi J h1;omega
 ·exact h1
 have:=I j i J hi h1;omega
def akL{e:Ev}(h:aZ e=0):1<=e.kind/\e.kind<=4:=by
 unfold aZ at h
 split at h
 ·cases h
 rename_i h1
 exact Classical.not_not.1 h1
def ZG{e:Ev}(h:aZ e=0):0<=e.Mr/\e.Mr<=3:=by
 unfold aZ at h
 split at h
 ·cases h
 split at h
 ·cases h
 rename_i h1 O
 split at h
 ·cases h
 split at h
 ·cases h
 rename_i h3 Z
 by_cases J:e.kind=1
 ·have M:=Classical.not_not.1 (λI=>O ⟨J,I⟩);simp only[Bool.and_eq_true,kL,decide_eq_true_eq]at M;omega
 have M:=Classical.not_not.1 (λI=>Z ⟨J,I⟩);omega
end
section
variable {Q:Qd}{e:Ev}
def ML(h:Q.Rj≠0):iO Q e=(dV,eU,false,Q.Rj):=if_pos h
def QO(h:Q.Rj=0)(h1:aZ e≠0):iO Q e=(dV,eU,false,aZ e):=by
 unfold iO;rw[if_neg (λI=>I h),if_pos h1]
def zq(h:Q.Rj=0)(h1:aZ e=0):iO Q e=((Nu Q e).1,(Nu Q e).2.1,(Nu Q e).2.2,0):=by
 unfold iO;rw[if_neg (λI=>I h),if_neg (λI=>I h1)]
end
noncomputable def gZ:Qd->List iW->List Ev->Option (Qd×List iW)
 |Q,an,[]=>some (Q,an)
 |Q,an,e::r=>if (iO Q e).2.2.2=0/\(iO Q e).2.2.1=true then gZ (iO Q e).1 (an++[(iO Q e).2.1]) r else none
noncomputable def av(l:List Ev):Qd×List iW×Int:=
 if 2000<l.length then(dV,[],1)else match gZ dV [] l with
  |some r=>(r.1,r.2,0)
  |none=>(dV,[],3)
section
variable {Q:Qd}{an:List iW}{l:List Ev}{e:Ev}{k:Nat}
def UQ(h:l[k]? =some e)(I:(iO Q e).2.2.2=0)(h1:(iO Q e).2.2.1=true):gZ Q an (l.drop k)=gZ (iO Q e).1 (an++[(iO Q e).2.1]) (l.drop (k+1)):=by
 obtain⟨J,M⟩:=List.getElem?_eq_some_iff.1 h;rw[drop_eq_getElem_cons J,M,gZ,if_pos ⟨I,h1⟩]
def UR(h:l[k]? =some e)(I:¬((iO Q e).2.2.2=0/\(iO Q e).2.2.1=true)):gZ Q an (l.drop k)=none:=by
 obtain⟨J,M⟩:=List.getElem?_eq_some_iff.1 h;rw[drop_eq_getElem_cons J,M,gZ,if_neg I]
def Yg(h:l.length<=k):gZ Q an (l.drop k)=some (Q,an):=by
 rw[drop_eq_nil_of_le h];rfl
def NY(h:2000<l.length):av l=(dV,[],1):=if_pos h
def EO{r:Qd×List iW}(h:¬ 2000<l.length)(h1:gZ dV [] l=some r):av l=(r.1,r.2,0):=by
 unfold av;rw[if_neg h,h1]
def Kr(h:¬ 2000<l.length)(h1:gZ dV [] l=none):av l=(dV,[],3):=by
 unfold av;rw[if_neg h,h1]
def gT(h:(av l).2.2=0):l.length<=2000:=by
 unfold av at h
 split at h
 ·cases h
 omega
def agi:(Nu Q e).1.ready.length+(Nu Q e).1.bP.length<=Q.ready.length+Q.bP.length+1:=by
 unfold Nu
 split
 ·unfold BU;split; · dsimp only;omega
  split; · dsimp only;omega
  split; · dsimp only;omega
  simp only[length_append,length_cons,length_nil];omega
 split
 ·obtain⟨ep,nx,gv,rs,ls,W⟩:=Q
  cases rs with
  |nil=>simp[GA]
  |cons m r=>simp only[GA];split<;>simp<;>omega
 split
 ·unfold EL;split; · dsimp only;omega
  split; · dsimp only;omega
  have:=length_filter_le (λx:Ls=>decide (x.Nc≠e.Nc)) Q.bP;simp only;omega
 unfold EM;split; · dsimp only;omega
 have h:=(GD Q.bP Q.ready).length_eq;rw[length_append,length_map]at h;simp only[length_nil];omega
def aeH(h:(iO Q e).2.2.2=0):(iO Q e).1.ready.length+(iO Q e).1.bP.length<=501:=by
 by_cases I:Q.Rj=0
 ·by_cases h1:aZ e=0
  ·rw[zq I h1];have J:=(P8 I).1;unfold R8 at J;have:=agi (Q:=Q) (e:=e);simp only;omega
  rw[QO I h1];simp[dV]
 rw[ML I];simp[dV]
def DW:∀ {l:List Ev} {Q:Qd} {an:List iW} {r:Qd×List iW},Q.ready.length+Q.bP.length<=501->gZ Q an l=some r->r.1.ready.length+r.1.bP.length<=501/\r.2.length=an.length+l.length
 |[],Q,an,r,hQ,h=>by
  simp only[gZ,Option.some.injEq]at h;subst h;exact⟨hQ,by simp⟩
 |e::l,Q,an,r,hQ,h=>by
  rw[gZ]at h
  split at h
  ·rename_i I
   obtain⟨h1,J⟩:=DW (aeH I.1) h;exact⟨h1,by rw[J];simp;omega⟩
  cases h
def Yh:(av l).1.ready.length+(av l).1.bP.length<=501:=by
 unfold av
 split
 ·simp[dV]
 split
 ·rename_i r h
  exact(DW (by simp[dV]) h).1
 simp[dV]
end
structure aU where
 Gq:Int
 ep:Int
 fr:Int
 tg:Int
 rd:Int
 Gs:List Ev
 deriving DecidableEq
def bF:aU:=⟨0,0,0,0,0,[]⟩
def aF:Ev:=⟨4,0,0,0,0,0⟩
def bq(b:aU):Prop:=(b.Gq=0/\0<=b.ep/\b.ep<=1048576/\b.fr=0/\b.tg=0/\b.rd=0/\b.Gs.length=0)\/(1<=b.ep/\b.ep<=1048576/\
 ((b.Gq=1/\b.fr=0/\b.tg=0/\b.rd=0)\/(b.Gq=2/\b.fr=0/\0<=b.tg/\b.tg<5/\0<=b.rd/\b.rd<=4)\/(b.Gq=3/\b.fr=0/\0<=b.tg/\b.tg<5/\b.rd=0)\/(b.Gq=4/\0<=b.fr/\b.fr<5/\b.tg=0/\b.rd=0)))
instance (b:aU):Decidable (bq b):=by unfold bq;exact inferInstance
open Classical in
noncomputable def au(b:aU):Int:=if bq b/\(av b.Gs).2.2=0 then 0 else 6
section
variable {b:aU}
def lS(h:bq b)(h1:(av b.Gs).2.2=0):au b=0:=if_pos ⟨h,h1⟩
def Kt(h:¬bq b):au b=6:=if_neg λh1=>h h1.1
def P9(h:¬(av b.Gs).2.2=0):au b=6:=if_neg λh1=>h h1.2
def eT(h:au b=0):bq b/\(av b.Gs).2.2=0:=by
 unfold au at h
 split at h
 ·assumption
 cases h
end
noncomputable def gU(b:aU)(e:Ev):aU×iW×Bool×Int:=
 if au b≠0 then(bF,eU,false,au b)else if aZ e≠0 then(bF,eU,false,aZ e)else if e.kind=4 then(bF,eU,false,3)
 else if b.Gq=3 then(b,sK 12,false,0)else if b.Gq≠1/\b.Gq≠2 then(b,sK 7,false,0)
 else if (iO (av b.Gs).1 e).2.2.1=false then(b,(iO (av b.Gs).1 e).2.1,false,0)
 else if 1999<=b.Gs.length then(b,sK 14,false,0)else({b with Gs:=b.Gs++[e]},(iO (av b.Gs).1 e).2.1,true,0)
noncomputable def iX(b:aU)(ep:Int):aU×Int:=
 if au b≠0 then(bF,au b)else if ¬(1<=ep/\ep<=1048576)then(bF,2)else if b.Gq≠0 then(bF,8)else if ep<=b.ep then(bF,15)else(⟨1,ep,0,0,0,[]⟩,0)
noncomputable def uK(b:aU)(tg:Int):aU×Int:=
 if au b≠0 then(bF,au b)else if ¬(0<=tg/\tg<=4)then(bF,2)else if b.Gq=2\/b.Gq=3 then(bF,12)else if b.Gq≠1 then(bF,7)
 else if b.ep=1048576 then(bF,14)else(⟨2,b.ep,0,tg,0,b.Gs⟩,0)
noncomputable def bG(b:aU)(hv:Int):aU×Int:=
 if au b≠0 then(bF,au b)else if b.Gq≠2/\b.Gq≠3 then(bF,7)else if ¬(0<=hv/\hv<=b.Gs.length)then(bF,2)
 else if b.Gq=3 then(b,0)else if hv=b.Gs.length\/b.rd=4 then({b with Gq:=3,rd:=0},0)else({b with rd:=b.rd+1},0)
noncomputable def ig(b:aU)(hv:Int):List Ev×Bool×Int:=
 if au b≠0 then([],false,au b)else if b.Gq≠2/\b.Gq≠3 then([],false,7)else if ¬(0<=hv/\hv<=b.Gs.length)then([],false,2)
 else((b.Gs.drop hv.toNat).take 3,decide (b.Gq=3/\b.Gs.length<=hv.toNat+3),0)
noncomputable def dw(b:aU)(ep fr:Int):aU×Int:=
 if au b≠0 then(bF,au b)else if ¬(1<=ep/\ep<=1048576/\0<=fr/\fr<=4)then(bF,2)else if b.Gq≠0/\b.Gq≠4 then(bF,8)
 else if b.Gq=4/\b.ep=ep/\b.fr=fr then(b,0)else if ep<=b.ep then(bF,15)else(⟨4,ep,fr,0,0,[]⟩,0)
noncomputable def cK(b:aU)(ep at_:Int)(l:List Ev)(last:Bool):aU×Int:=
 if au b≠0 then(bF,au b)else if b.Gq≠4 then(bF,7)else if b.ep≠ep then(bF,15)else if ¬(0<=at_/\at_<=b.Gs.length)then(bF,2)
 else if ¬(b.Gs.drop at_.toNat).take l.length=l.take (b.Gs.length-at_.toNat)then(bF,3)
 else if last=true/\at_.toNat+l.length<b.Gs.length then(bF,3)
 else if au (if last=true then⟨1,ep,0,0,0,b.Gs++l.drop (b.Gs.length-at_.toNat)++[aF]⟩else{b with Gs:=b.Gs++l.drop (b.Gs.length-at_.toNat)})≠0 then(bF,3)
 else(if last=true then⟨1,ep,0,0,0,b.Gs++l.drop (b.Gs.length-at_.toNat)++[aF]⟩else{b with Gs:=b.Gs++l.drop (b.Gs.length-at_.toNat)},0)
noncomputable def fT(b:aU)(ep:Int):aU×Int:=
 if au b≠0 then(bF,au b)else if b.Gq≠3 then(bF,7)else if ep<=b.ep then(bF,15)else(⟨0,b.ep,0,0,0,[]⟩,0)
noncomputable def dL(b:aU):aU×Int:=
 if au b≠0 then(bF,au b)else if b.Gq≠1/\b.Gq≠2 then(b,0)
 else if au ⟨1,b.ep,0,0,0,b.Gs++[aF]⟩≠0 then(bF,14)else(⟨1,b.ep,0,0,0,b.Gs++[aF]⟩,0)
def kZ{α:Type}{a b:α}(h:a=b:=by(repeat' (first|rfl|omega|split))<;>(simp only[Prod.mk.injEq,aU.mk.injEq,and_true,true_and,and_self];omega)):a=b:=h
instance:zJ gF where
 size:=2
 QF m:=[m.no,m.body]
 of xs:=⟨xs.getD 0 0,xs.getD 1 0⟩
 pos:=by decide
 len _:=rfl
 inv xs h:=by
  match xs,h with
  |[a,b],_=>rfl
instance:zJ Ls where
 size:=4
 QF m:=[m.fO,m.Nc,m.Rk.no,m.Rk.body]
 of xs:=⟨xs.getD 0 0,xs.getD 1 0,⟨xs.getD 2 0,xs.getD 3 0⟩⟩
 pos:=by decide
 len _:=rfl
 inv xs h:=by
  match xs,h with
  |[a,b,c,d],_=>rfl
def agj(l:List gF):∀u∈l.flatMap gF.cells,u.oneCell'=true:=FI l
def ZH(l:List Ls):∀u∈l.flatMap Ls.cells,u.oneCell'=true:=FI l
section
variable {P:Program}{w:World}{t e:TypeId}{xo yo:Operand}
def vP{A:Option Addr}{n c:Nat}(h:P.underlying t=some (.slice e)):(do eqGuard .eql t xo yo (.slice A n c) (.slice none 0 0);binOp .eql t (.slice A n c) (.slice none 0 0):Sem Value).run P w=.ok (.bool A.isNone) w:=by
 rw[Sem.run_bind,show(eqGuard .eql t xo yo (.slice A n c) (.slice none 0 0)).run P w=.ok () w from E];exact Lib.run_eql_slice_nil w t e A n c 0 0 h
end
def I5{w:World}{B s n:Nat}{xs:List Value}(h:Rd w B s none n xs):n=0/\xs=[]:=by
 have h1:n=0:=by
  rcases eq_zero_or_pos n with I|I
  ·exact I
  obtain⟨b,off,e,_⟩:=h.2 I
  cases e
 subst h1;exact⟨E,eq_nil_of_length_eq_zero (by have:=h.1;omega)⟩
def aeO(A:Option Addr)(n c:Nat)(l:List Value)(w:World)(h:Rd w w.heap.size 2 A n l)(I:∀u∈l,u.oneCell'=true)(Z:n*16<=reachBytes):
 Calls prog 119 #[.slice A n c] w (jA w 222 2 n l):=by
 unfold reachBytes at Z;have S:=(St.start w).bV h;refine gP 8 func119 ?_;refine cw [0] ?_;refine zN 9 ?_
 cases A with
 |none=>
  obtain⟨rfl,rfl⟩:=I5 h;refine vv (v:=.bool true) (bM E E E (vP underlying176)) ?_;refine zN 11 ?_;exact jA.of (Below.refl _ _) (jk _ _ _ _)
 |some a=>
  refine vv (v:=.bool false) (bM E E E (vP underlying176)) ?_;refine zN 7 ?_;refine qX (V:=λb=>.slice (aD b 0) 0 0) (row:= #[]) (t:=222) (n:=0) (s:=2) (xs:=[]) S (wn E) E E (aV (vs:=[]) E trivial kQ) iQ (zero_le _) E ?_;intro b1 w2 M;refine zQ ?_;refine dU (news:=l) (xs':=l) 0 M (wn E) E E E E E E (St.rd 1 M E) underlying176 VQ E dQ I lQ Y E ?_;intro A4 c5 w6 hc8 zu S7;refine zN 5 ?_;have J:=S7.aO [1];have O:=J.own 0 E;simp only[Nat.zero_add]at O⊢;exact jA.of J.Nr O
def aeP(A:Option Addr)(n c:Nat)(l:List Value)(w:World)(h:Rd w w.heap.size 4 A n l)(I:∀u∈l,u.oneCell'=true)(Z:n*32<=reachBytes):
 Calls prog 120 #[.slice A n c] w (jA w 225 4 n l):=by
 unfold reachBytes at Z;have S:=(St.start w).bV h;refine gP 8 func120 ?_;refine cw [0] ?_;refine zN 9 ?_
 cases A with
 |none=>
  obtain⟨rfl,rfl⟩:=I5 h;refine vv (v:=.bool true) (bM E E E (vP underlying177)) ?_;refine zN 11 ?_;exact jA.of (Below.refl _ _) (jk _ _ _ _)
 |some a=>
  refine vv (v:=.bool false) (bM E E E (vP underlying177)) ?_;refine zN 7 ?_;refine qX (V:=λb=>.slice (aD b 0) 0 0) (row:= #[]) (t:=225) (n:=0) (s:=4) (xs:=[]) S (wn E) E E (aV (vs:=[]) E trivial kQ) iQ (zero_le _) E ?_;intro b1 w2 M;refine zQ ?_;refine dU (news:=l) (xs':=l) 0 M (wn E) E E E E E E (St.rd 1 M E) underlying177 aeB E dQ I lQ Y E ?_;intro A4 c5 w6 hc8 zu S7;refine zN 5 ?_;have J:=S7.aO [1];have O:=J.own 0 E;simp only[Nat.zero_add]at O⊢;exact jA.of J.Nr O
def Dy(e nx g:Int)(r l:Value)(W:kN)(m:gF)(w:World):
 Calls prog 126 #[.agg (dB e nx g (r) (l) W),.agg #[D m.no,D m.body]] w (FM w (rH nx m)):=by
 have S:=St.start w;refine gP 25 func126 ?_;refine cw [0,1] ?_;refine zN 2 ?_;refine iU S ?_;intro b1 O J;refine iU J ?_;intro b4 Z I;refine zN 7 ?_;by_cases h7:0<=m.no
 ·refine zN 5 ?_;refine vg (aj E E (aG (St.cl 1 I E Bu))) ?_;by_cases h8:m.no<nx
  ·refine zN 5 ?_;by_cases h9:0<=m.body
   ·refine zN 5 ?_;by_cases M:m.body<=1000000
    ·refine zN 7 ?_;refine⟨?_,I.Nr⟩;rw[show rH nx m=true from decide_eq_true ⟨‹_›,‹_›,‹_›,‹_›⟩];rfl
    refine zN 7 ?_;refine⟨?_,I.Nr⟩;rw[show rH nx m=false from decide_eq_false (λh=>absurd h.2.2.2 ‹_›)];rfl
   refine zN 12 ?_;refine⟨?_,I.Nr⟩;rw[show rH nx m=false from decide_eq_false (λh=>absurd h.2.2.1 ‹_›)];rfl
  refine zN 17 ?_;refine⟨?_,I.Nr⟩;rw[show rH nx m=false from decide_eq_false (λh=>absurd h.2.1 ‹_›)];rfl
 refine zN 23 ?_;refine⟨?_,I.Nr⟩;rw[show rH nx m=false from decide_eq_false (λh=>absurd h.1 ‹_›)];rfl
def aeQ(ep nx gv:Int)(A1 A2:Option Addr)(c1 c2:Nat)(rs:List gF)(ls:List Ls)(W:kN)(w:World)(h1:Rd w w.heap.size 2 A1 rs.length (rs.flatMap gF.cells))(h2:Rd w w.heap.size 4 A2 ls.length (ls.flatMap Ls.cells))(hb1:rs.length*16<=reachBytes)(hb2:ls.length*32<=reachBytes):
 Calls prog 118 #[.agg (dB ep nx gv (.slice A1 rs.length c1) (.slice A2 ls.length c2) W)] w (WX w (gy ep nx gv rs ls W)):=by
 unfold reachBytes at hb1 hb2;have S:=((St.start w).bV h2).bV h1;refine gP 140 func118 ?_;refine cw [0] ?_;refine zN 2 ?_;refine iU S ?_;intro b1 w2 Z;refine zN 7 ?_;refine vv (aj E E (aG (St.cl 0 Z E yC))) ?_;by_cases h4:ep<0
 ·refine zN 47 ?_;exact⟨iq (CQ Y).symm,Z.Nr⟩
 refine zN 3 ?_;refine vg (aj E E (aG (St.cl 0 Z E yC))) ?_;by_cases h5:1048576<ep
 ·refine zN 43 ?_;exact⟨iq (CQ Y).symm,Z.Nr⟩
 refine zN 4 ?_;refine vg (aj E E (aG (St.cl 0 Z E Bu))) ?_;by_cases h6:nx<0
 ·refine zN 38 ?_;exact⟨iq (CQ Y).symm,Z.Nr⟩
 refine zN 4 ?_;refine vg (aj E E (aG (St.cl 0 Z E Bu))) ?_;by_cases h7:1073741824<nx
 ·refine zN 33 ?_;exact⟨iq (CQ Y).symm,Z.Nr⟩
 refine zN 4 ?_;refine vg (aj E E (aG (St.cl 0 Z E Bv))) ?_;by_cases h8:gv<0
 ·refine zN 28 ?_;exact⟨iq (CQ Y).symm,Z.Nr⟩
 refine zN 4 ?_;refine vg (aj E E (aG (St.cl 0 Z E Bv))) ?_;by_cases h9:1073741824<gv
 ·refine zN 23 ?_;exact⟨iq (CQ Y).symm,Z.Nr⟩
 refine zN 4 ?_;refine vg (aj E E (aG (St.cl 0 Z E qh))) ?_;refine zN 2 ?_;refine vg (aj E E (aG (St.cl 0 Z E tN))) ?_;refine zQ ?_;refine vg (v:=D ((rs.length+ls.length:Nat):Int)) iI ?_;by_cases h10:500< ((rs.length+ls.length:Nat):Int)
 ·refine zN 13 ?_;exact⟨iq (CQ Y).symm,Z.Nr⟩
 refine zN 11 ?_;refine vv (aj E E (dP (cs:=(W.cells)) (St.rg 0 Z E (aks)))) ?_;refine zN 4 ?_;refine fJ (X:=Nat) (λI=>[(1,pV b1 0),(2,D 0),(51,.agg ((W.cells).toArray)),(52,D (I:Int))]) (λI wr=>(I<=4)/\(∀j,j<I->dO (W.at j)=0)/\St w.heap.size w wr [.Mg b1 (dB ep nx gv (.slice A1 rs.length c1) (.slice A2 ls.length c2) W) 183,.rd 2 A1 rs.length ((rs).flatMap gF.cells),.rd 4 A2 ls.length ((ls).flatMap Ls.cells)]) (λI=>4-I) (0) ?_ ?_ ?_
 ·exact⟨zero_le _,λj hj=>absurd hj (not_lt_zero _),Z⟩
 ·exact jX
 rintro k Ib ⟨anN,Mi,pF⟩
 try dsimp only at anN Mi pF
 refine bI (l':=[(1,pV b1 0),(2,D 0),(51,.agg ((W.cells).toArray)),(52,D (k:Int))]) jX (aQ (aC ?_));by_cases h15:(k:Int)<4
 ·refine zN 11 ?_;refine vv (v:=.agg (((W.at k).cells).toArray)) (ajo E E E (Yd W k Y _)) ?_;refine gD pF anM ?_;intro b16 MZ qO;refine stA 0 qO kQ ?_ (h1:=IZ _);intro GH qj;refine zN 5 ?_;refine Rq eQ qj (FE (W.at k) _) ?_;intro FN jY;refine zN 6 ?_;by_cases QW:dO (W.at k)=0
  ·refine zN 8 ?_;refine vv (v:=D ((k+1:Nat):Int)) iI ?_;refine zN 2 ?_;have lH:=jY.aO [0];refine bC (k+1) ?_ jX (by first|omega|(dsimp only;omega));exact⟨Y,(λj hj=>(Nat.lt_succ_iff_lt_or_eq.1 hj).elim (λh=>Mi j h) (λh=>by rw[h];exact QW)),lH⟩
  refine zN 17 ?_;refine⟨iq ?_,jY.Nr⟩;rw[aqG (j:=k) Y QW];exact(akD _).resolve_left QW
 refine zN 12 ?_;refine X8 (k:=3) pF (wn E) E E E ?_;intro b26 NZ tC;have azX:zM W:=λj hj=>Mi j Y;refine zN 12 ?_;refine vv (aj E E (aG (St.cl 1 tC E qh))) ?_;refine zN 5 ?_;refine fJ (X:=Nat×Int) (λI=>[(1,pV b1 0),(2,D 0),(6,.map (some b26)),(7,D I.2),(63,.slice A1 rs.length c1),(64,D (rs.length:Int)),(65,D (I.1:Int))]) (λI wr=>(I.1<=rs.length)/\(ku nx (-1) rs=ku nx I.2 (rs.drop I.1))/\St w.heap.size w wr [.loc b26 (Me prog 3 ((rs.take I.1).map (·.no))),.Mg b1 (dB ep nx gv (.slice A1 rs.length c1) (.slice A2 ls.length c2) W) 183,.rd 2 A1 rs.length ((rs).flatMap gF.cells),.rd 4 A2 ls.length ((ls).flatMap Ls.cells)]) (λI=>rs.length-I.1) (0,-1) ?_ ?_ ?_
 ·exact⟨zero_le _,E,tC⟩
 ·exact uj
 rintro⟨k,p⟩ VX ⟨I6,I7,oW⟩
 try dsimp only at I6 I7 oW
 refine bI (l':=[(1,pV b1 0),(2,D 0),(6,.map (some b26)),(7,D p),(63,.slice A1 rs.length c1),(64,D (rs.length:Int)),(65,D (k:Int))]) uj (aQ (aC ?_));by_cases h34:(k:Int)< (rs.length:Int)
 ·refine zN 11 ?_;obtain⟨b35,o36,rfl⟩:=Rd.addr (St.rd 2 oW E) Y;obtain⟨x37,hx38⟩:=JH k (St.rd 2 oW E) Y;refine vv (ko k) ?_;refine vv (aj E E (dP (cs:=gF.cells x37) (Rd.wZ (St.rd 2 oW E) (λ_ _ h=>bE (enc:=gF.cells) (sz:=2) (λ_=>E) hx38 h)))) ?_;refine gD oW azW ?_;intro b39 w40 JL;refine sa 0 JL kQ ?_;intro SX rW;refine zN 7 ?_;refine dJ eQ (Dy ep nx gv _ _ W x37 _) ?_;rintro _ N7 ⟨rfl,azY⟩;refine⟨_,E,?_⟩;have pQ:=rW.on azY
  cases WY:(rH nx x37)
  ·refine zN 23 ?_;exact⟨iq (zO λh=>by rw[I7,Ko hx38,WY]at h;exact absurd h.2.1 iQ).symm,pQ.Nr⟩
  have aF8:=xD WY;refine zN 5 ?_;by_cases h49:p<x37.no
  ·refine zN 18 ?_;refine vv (v:=.agg #[]) yz ?_;refine NU (z:=x37.no) 1 pQ (wn E) E E E E E E underlying3 underlying230 Y (by simp[maxLen];omega) ?_;intro VY vk;rw[Kq (f:=λm:gF=>m.no) hx38]at vk;refine zN 4 ?_;refine vv (v:=D ((k+1:Nat):Int)) iI ?_;refine zN 2 ?_;have CS:=vk.aO [0];refine bC (k+1,x37.no) ?_ uj (by first|omega|(dsimp only;omega));exact⟨uQ,(by dsimp only;rw[I7,Ko hx38,WY,decide_eq_true h49];rfl),CS⟩
  refine zN 18 ?_;exact⟨iq (zO λh=>by rw[I7,Ko hx38,decide_eq_false h49]at h;exact absurd h.2.1 iQ).symm,pQ.Nr⟩
 refine zN 19 ?_;refine vv (aj E E (aG (St.cl 1 oW E tN))) ?_;refine zN 5 ?_;have azZ:ku nx (-1) rs=true:=by rw[I7,drop_of_length_le Y];rfl
 have vo:=oW;rw[take_of_length_le (show rs.length<=k by omega)]at vo;rw[<-append_nil (rs.map (·.no))]at vo;refine fJ (X:=Nat×Int) (λI=>[(1,pV b1 0),(2,D 0),(6,.map (some b26)),(7,D I.2),(87,.slice A2 ls.length c2),(88,D (ls.length:Int)),(89,D (I.1:Int))]) (λI wr=>(I.1<=ls.length)/\(lX ep nx gv (-1) ls=lX ep nx gv I.2 (ls.drop I.1))/\St w.heap.size w wr [.loc b26 (Me prog 3 (rs.map (·.no)++(ls.take I.1).map (·.Rk.no))),.Mg b1 (dB ep nx gv (.slice A1 rs.length c1) (.slice A2 ls.length c2) W) 183,.rd 2 A1 rs.length ((rs).flatMap gF.cells),.rd 4 A2 ls.length ((ls).flatMap Ls.cells)]) (λI=>ls.length-I.1) (0,-1) ?_ ?_ ?_
 ·exact⟨zero_le _,E,vo⟩
 ·exact uj
 rintro⟨k,p⟩ w56 ⟨az0,J,vQ⟩
 try dsimp only at az0 J vQ
 refine bI (l':=[(1,pV b1 0),(2,D 0),(6,.map (some b26)),(7,D p),(87,.slice A2 ls.length c2),(88,D (ls.length:Int)),(89,D (k:Int))]) uj (aQ (aC ?_));by_cases h60:(k:Int)< (ls.length:Int)
 ·refine zN 11 ?_;obtain⟨b61,o62,rfl⟩:=Rd.addr (St.rd 3 vQ E) Y;obtain⟨O,M⟩:=JH k (St.rd 3 vQ E) Y;refine vv (ko k) ?_;refine vv (aj E E (dP (cs:=Ls.cells O) (Rd.wZ (St.rd 3 vQ E) (λ_ _ h=>bE (enc:=Ls.cells) (sz:=4) (λ_=>E) M h)))) ?_;refine gD vQ asI ?_;intro b65 VZ uL;refine sa 0 uL kQ ?_;intro w68 Aw;refine zN 7 ?_;refine vv (aj E E (dP (cs:=[D O.Rk.no,D O.Rk.body]) (St.rg 0 Aw E (mE (x:=2) (m:=2) E)))) ?_;refine dJ eQ (Dy ep nx gv _ _ W O.Rk _) ?_;rintro _ w70 ⟨rfl,az1⟩;refine⟨_,E,?_⟩;have rX:=Aw.on az1
  cases anO:(rH nx O.Rk)
  ·refine zN 40 ?_;exact⟨iq (zO λh=>by rw[J,El M,Mh,anO]at h;exact absurd h.2.2.1 iQ).symm,rX.Nr⟩
  have aF9:=xD anO;refine zN 6 ?_;refine vg (aj E E (aG (St.cl 2 rX E yC))) ?_;by_cases h75:O.fO=ep
  ·refine zN 7 ?_;by_cases h76:p<O.Nc
   ·refine zN 7 ?_;refine vg (aj E E (aG (St.cl 2 rX E Bv))) ?_;by_cases h77:O.Nc<gv
    ·refine zN 20 ?_;refine vv (v:=.agg #[]) yz ?_;refine NU (z:=O.Rk.no) 1 rX (wn E) E E E E E E underlying3 underlying230 Y (by simp[maxLen];omega) ?_;intro w78 BZ;rw[append_assoc,Kq (f:=λm:Ls=>m.Rk.no) M]at BZ;refine zN 4 ?_;refine vv (v:=D ((k+1:Nat):Int)) iI ?_;refine zN 2 ?_;have uo:=BZ.aO [0];refine bC (k+1,O.Nc) ?_ uj (by first|omega|(dsimp only;omega));exact⟨uQ,(by dsimp only;rw[J,El M,Mh,anO,decide_eq_true ⟨by omega,by omega,by omega⟩];rfl),uo⟩
    refine zN 18 ?_;exact⟨iq (zO λh=>by rw[J,El M,Mh,decide_eq_false (λh1=>h77 (h1.2.2)),Bool.and_false]at h;exact absurd h.2.2.1 iQ).symm,rX.Nr⟩
   refine zN 26 ?_;exact⟨iq (zO λh=>by rw[J,El M,Mh,decide_eq_false (λh1=>h76 (h1.2.1)),Bool.and_false]at h;exact absurd h.2.2.1 iQ).symm,rX.Nr⟩
  refine zN 33 ?_;exact⟨iq (zO λh=>by rw[J,El M,Mh,decide_eq_false (λh1=>h75 (h1.1)),Bool.and_false]at h;exact absurd h.2.2.1 iQ).symm,rX.Nr⟩
 refine zN 14 ?_;have az2:lX ep nx gv (-1) ls=true:=by rw[J,drop_of_length_le Y];rfl
 have Dz:=vQ;rw[take_of_length_le (show ls.length<=k by omega)]at Dz;change St _ _ _ [.loc b26 (Me prog 3 (oh rs ls)),.Mg b1 (dB ep nx gv (.slice A1 rs.length c1) (.slice A2 ls.length c2) W) 183,.rd 2 A1 rs.length ((rs).flatMap gF.cells),.rd 4 A2 ls.length ((ls).flatMap Ls.cells)]at Dz;obtain⟨m84,az3,az4,anP⟩:=afZ 0 Dz E underlying230 3;have hnl:(oh rs ls).length=rs.length+ls.length:=by simp[oh]
 rw[hnl]at az4 anP;refine vv (v:=D (m84:Int)) (nU (vs:=[.map (some b26)]) E tU1 az3) ?_;refine zQ ?_;refine vv (aj E E (aG (St.cl 1 Dz E qh))) ?_;refine zN 2 ?_;refine vv (aj E E (aG (St.cl 1 Dz E tN))) ?_;refine zQ ?_;refine vv (v:=D ((rs.length+ls.length:Nat):Int)) iI ?_;by_cases h88:(m84:Int)< ((rs.length+ls.length:Nat):Int)
 ·refine zN 12 ?_;exact⟨iq (zO λh=>anP.1 Y h.2.2.2).symm,Dz.Nr⟩
 refine zN 13 ?_;exact⟨iq (awi (by unfold R8;omega) azX azZ az2 (Classical.not_not.1 λh=>h88 (by have:=anP.2 h;omega))).symm,Dz.Nr⟩
def abt{B g k c1 c2:Nat}{w0 w:World}{fs:List J8}{A1 A2:Option Addr}{rs:List gF}{ls:List Ls}{W:kN}{ep nx gv kd id bd he hn:Int}(S:St B w0 w (.Mg g (dB ep nx gv (.slice A1 rs.length c1) (.slice A2 ls.length c2) W) 219:: .own 222 2 (.slice A1 rs.length c1) rs.length ((rs).flatMap gF.cells):: .own 225 4 (.slice A2 ls.length c2) ls.length ((ls).flatMap Ls.cells)::fs))(hk:k<4)(hlen:rs.length+ls.length<=500)(hnx:0<=nx/\nx<=1073741824)(hgv:0<=gv/\gv<=1073741824)(fO:0<=ep/\ep<=1048576):
 Calls prog 121 #[pV g 0,.agg #[D kd,D (k:Int),D id,D bd,D he,D hn]] w (EN B w0 g fs (BU ⟨ep,nx,gv,rs,ls,W⟩ k id bd)):=by
 refine gP 94 func121 ?_;refine cw [0,1] ?_;refine zN 2 ?_;refine iU S ?_;intro b1 w2 S3;refine gD S3 tK ?_;intro b4 w5 S6;refine zN 3 ?_;refine nD (X:=Nat) (λxv=>[(0,pV g 0),(3,pV b1 0),(4,pV b4 0),(5,.bool false),(6,pV xv 0),(7,.bool ((jh (W.at k) id).2.1)),(8,D ((jh (W.at k) id).2.2))]) (λxv wr=>St B w0 wr ((.Mg xv (((jh (W.at k) id).1.cells).toArray) 180)::(.Mg b4 #[D 0,D 0,D 0,D 0] 54)::(.Mg b1 #[D kd,D (k:Int),D id,D bd,D he,D hn] 49)::(.Mg g (dB ep nx gv (.slice A1 rs.length c1) (.slice A2 ls.length c2) W) 219)::(.own 222 2 (.slice A1 rs.length c1) rs.length ((rs).flatMap gF.cells))::(.own 225 4 (.slice A2 ls.length c2) ls.length ((ls).flatMap Ls.cells))::fs)) ?_ ?_
 ·have S7:=S6.drew;refine aK 19 S7 [] ?_;refine aL 6 ?_;refine ak (v:=pV g (5+k*9)) 6 E S7 (λ_ _=>(aM E E E (fU k underlying181 kQ E hk))) ?_;refine ak (v:=.agg (((W.at k).cells).toArray)) 7 E S7 (λ_ anQ=>(aj E E (dP (cs:=(W.at k).cells) (St.rg 2 anQ E (akE hk))))) ?_;refine aL 2 ?_;refine iG (n:=8) (r:=10) (s:=15) kQ ?_ ?_
  ·refine kE 10 E eQ (H6 (W.at k) id _) ?_;rintro _ M0 ⟨rfl,anR⟩;refine⟨_,E,?_⟩;have uM:=S7.on anR;refine aL 5 ?_;refine bg 15 ?_;refine lW 15 E uM anM ?_;intro b25 M4 sS;refine dG ?_;refine bg 16 ?_;refine snA 16 E 0 sS kQ ?_ (h1:=IZ _);intro V3 tF;refine aL 4 ?_;refine dM b25 ?_ uj;exact tF
  refine lW 15 E S7 anM ?_;intro b32 w33 qY;refine dG ?_;refine bg 10 ?_;refine kE 10 E eQ (H6 (W.at k) id _) ?_;rintro _ ZI ⟨rfl,anS⟩;refine⟨_,E,?_⟩;have tH:=qY.on anS;refine aL 5 ?_;refine bg 16 ?_;refine snA 16 E 0 tH kQ ?_ (h1:=IZ _);intro SX rW;refine aL 4 ?_;refine dM b32 ?_ uj;exact rW
 rintro b46 w47 M
 try dsimp only at M
 refine bI (l':=[(0,pV g 0),(3,pV b1 0),(4,pV b4 0),(5,.bool false),(6,pV b46 0),(7,.bool ((jh (W.at k) id).2.1)),(8,D ((jh (W.at k) id).2.2))]) uj (aQ (EF (aQ (aC (vm ?_)))));by_cases h1:(jh (W.at k) id).2.2=0
 ·refine zN 8 ?_
  cases h2:(jh (W.at k) id).2.1
  ·refine zN 8 ?_;refine sa 1 M kQ ?_;intro w49 wu;refine zN 7 ?_;have vk:=wu.aO [2,1,0];have pG:=vk.bJ 1 E;have CS:=pG.bJ 2 E;rw[akG h1 h2];refine⟨E,A1,c1,A2,c2,?_⟩;dsimp only;exact CS
  refine zN 6 ?_;refine fu M mixed kQ ?_;refine zN 4 ?_;refine uv (v:=.slice A1 rs.length c1) (λ_ az5=>(aj E E (aG (St.cl 3 az5 E qh)))) ?_;refine zN 5 ?_;refine uv (v:=.slice A2 ls.length c2) (λ_ abh=>(aj E E (aG (St.cl 3 abh E tN)))) ?_;refine zQ ?_;refine uv (v:=D ((rs.length+ls.length:Nat):Int)) (λ_ _=>iI) ?_;by_cases h3:rs.length+ls.length=500
  ·refine zN 10 ?_;refine eP λw71 FP=>?_;refine zN 4 ?_;refine vv (v:=.agg #[D 14,D 0,D 0,D 0]) gH ?_;refine sa 1 FP kQ ?_;intro w73 Lc;refine zN 7 ?_;have Em:=Lc.aO [2,1,0];have M5:=Em.bJ 1 E;have DC:=M5.bJ 2 E;rw[SS h1 h2 (.inl h3)];refine⟨E,A1,c1,A2,c2,?_⟩;dsimp only;exact DC
  refine zN 6 ?_;refine ug (v:=D nx) (λ_ az6=>(aj E E (aG (St.cl 3 az6 E Bu)))) ?_;by_cases h4:nx=1073741824
  ·refine zN 3 ?_;refine eP λw88 JM=>?_;refine zN 4 ?_;refine vv (v:=.agg #[D 14,D 0,D 0,D 0]) gH ?_;refine sa 1 JM kQ ?_;intro w90 QX;refine zN 7 ?_;have zw:=QX.aO [2,1,0];have DF:=zw.bJ 1 E;have Ic:=DF.bJ 2 E;rw[SS h1 h2 (.inr h4)];refine⟨E,A1,c1,A2,c2,?_⟩;dsimp only;exact Ic
  refine zN 3 ?_;refine eP λw98 S99=>?_;refine zN 6 ?_;have J:=S99.drew;refine aK 9 J [3] ?_;refine aL 7 ?_;refine ak (v:=pV g (5+k*9)) 7 E (St.del 3 J) (λ_ _=>(aM E E E (fU k underlying181 kQ E hk))) ?_;refine bg 8 ?_;refine uH (i:=8) E E (cs:=((jh (W.at k) id).1.cells).toArray) (row':=dB ep nx gv (.slice A1 rs.length c1) (.slice A2 ls.length c2) (W.put k (jh (W.at k) id).1)) (fs':=(.Mg b46 (((jh (W.at k) id).1.cells).toArray) 180)::(.Mg b4 #[D 0,D 0,D 0,D 0] 54)::(.Mg b1 #[D kd,D (k:Int),D id,D bd,D he,D hn] 49)::(.Mg g (dB ep nx gv (.slice A1 rs.length c1) (.slice A2 ls.length c2) (W.put k (jh (W.at k) id).1)) 219)::(.own 222 2 (.slice A1 rs.length c1) rs.length ((rs).flatMap gF.cells))::(.own 225 4 (.slice A2 ls.length c2) ls.length ((ls).flatMap Ls.cells))::fs) 3 J (wn E) E E E E E E amr E (IZ _) (by rw[xU];omega) (akH hk) E ?_;intro abk qZ;refine aL 2 ?_;refine zN 2 ?_;have I:=qZ.drew;refine fM 20 16 I [4] ?_;iterate 5 refine gW ?_
  refine gk (v:=.slice A1 rs.length c1) 5 E (St.del 4 I) (λ_ awk=>(aj E E (aG (St.cl 3 awk E qh)))) ?_;iterate 4 refine gW ?_
  refine gk (v:=D nx) 10 E (St.del 4 I) (λ_ awl=>(aj E E (aG (St.cl 3 awl E Bu)))) ?_;iterate 2 refine gW ?_
  refine gk (v:=.agg #[D nx,D bd]) 13 E (St.del 4 I) (λ_ _=>gH) ?_;refine fE (m:=5) (r:=14) kQ ?_;refine mW (i:=14) E E (V:=λb=>.slice (aD b 0) 1 1) (row:= #[D nx,D bd]) (t:=222) I (wn E) E E (aV (vs:=[(0,.agg #[D nx,D bd])]) E xR kQ) ?_;intro aJo abl O;refine gW ?_;refine fE (m:=4) (r:=15) kQ ?_;refine lG (i:=15) E E (news:=[D nx,D bd]) (xs':=(rs++[(⟨nx,bd⟩:gF)]).flatMap gF.cells) 5 O (wn E) E E E E E E (St.mD (xs:=[D nx,D bd]) 0 O E E E) underlying176 VQ E dQ (bY E) lQ Y (jB (enc:=gF.cells) E E) ?_;intro az7 c130 aia aGa aGb yP;refine gW ?_;refine fC kQ E E E ?_;refine zN 3 ?_;refine jH 4 yP kQ ?_ (hs:=by exact IX);intro asQ Z;refine zQ ?_;refine jg ?_;refine zN 7 ?_;refine vv (aj E E (aG (St.cl 4 Z E Bu))) ?_;refine vv (v:=D (nx+1)) iI ?_;refine zN 3 ?_;refine jH 4 Z kQ ?_ (hs:=by exact aky);intro asR EP;refine zN 5 ?_;refine sa 2 EP kQ ?_;intro az8 Df;refine zN 5 ?_;have anT:=Df.aO [3,2,1,0];have I8:=anT.bJ 1 E;have WZ:=I8.bJ 2 E;rw[aqH h1 h2 (λh=>h.elim h3 h4)];have hln:=(by simp:(rs++[(⟨nx,bd⟩:gF)]).length=rs.length+1);refine⟨E,az7,c130,A2,c2,?_⟩;dsimp only;rw[hln];exact WZ
 refine zN 8 ?_;refine vv (v:=.agg #[D ((jh (W.at k) id).2.2),D 0,D 0,D 0]) gH ?_;refine sa 1 M kQ ?_;intro aib Mj;refine zN 7 ?_;have R9:=Mj.aO [2,1,0];have Sb:=R9.bJ 1 E;have N8:=Sb.bJ 2 E;rw[akF h1];refine⟨E,A1,c1,A2,c2,?_⟩;dsimp only;exact N8
def eu{w:World}{base:Nat}{e:TypeId}{size:Nat}{A:Option Addr}{n c:Nat}{xs:List Value}(h:w.ownsRow base e size (.slice A n c) n xs):n<=c/\c<=maxLen:=by
 obtain⟨A',c',I,h1,J⟩:=mY h
 cases I;exact⟨h1,J⟩
def ZJ{α:Type}{enc:α->List Value}{sz:Nat}(h:∀x,(enc x).length=sz):∀(k:Nat) (l:List α),(l.flatMap enc).drop (k*sz)=(l.drop k).flatMap enc
 | 0,l=>by simp
 |k+1,[]=>by simp
 |k+1,x::l=>by rw[flatMap_cons,succ_mul,Nat.add_comm,<-drop_drop,drop_left' (h x),ZJ h k l];rfl
def agk{w:World}{B:Nat}{A:Option Addr}{rs:List gF}(h:Rd w B 2 A (rs.length-1) (((rs.flatMap gF.cells).drop (1*2)).take ((rs.length-1)*2))):Rd w B 2 A (rs.length-1) ((rs.drop 1).flatMap gF.cells):=by
 rw[ZJ (enc:=gF.cells) (sz:=2) (λ_=>E),take_of_length_le (by rw[iL (sz:=2) (λ_=>E),length_drop];exact Nat.le_refl _)]at h;exact h
def abu{B g k c1 c2:Nat}{w0 w:World}{fs:List J8}{A1 A2:Option Addr}{rs:List gF}{ls:List Ls}{W:kN}{ep nx gv kd id bd he hn:Int}(S:St B w0 w (.Mg g (dB ep nx gv (.slice A1 rs.length c1) (.slice A2 ls.length c2) W) 219:: .own 222 2 (.slice A1 rs.length c1) rs.length ((rs).flatMap gF.cells):: .own 225 4 (.slice A2 ls.length c2) ls.length ((ls).flatMap Ls.cells)::fs))(hk:k<4)(hlen:rs.length+ls.length<=500)(hnx:0<=nx/\nx<=1073741824)(hgv:0<=gv/\gv<=1073741824)(fO:0<=ep/\ep<=1048576):
 Calls prog 122 #[pV g 0,.agg #[D kd,D (k:Int),D id,D bd,D he,D hn]] w (EN B w0 g fs (GA ⟨ep,nx,gv,rs,ls,W⟩)):=by
 refine gP 80 func122 ?_;refine cw [0,1] ?_;refine zN 2 ?_;refine iU S ?_;intro b1 w2 S3;refine gD S3 tK ?_;intro b4 w5 S6;refine zN 11 ?_;refine vv (aj E E (aG (St.cl 2 S6 E qh))) ?_;refine zQ ?_;by_cases h1:rs.length=0
 ·refine zN 7 ?_;refine vv (v:=.agg #[D 10,D 0,D 0,D 0]) gH ?_;refine sa 0 S6 kQ ?_;intro w7 S8;refine zN 7 ?_;have S9:=S8.aO [1,0];have DI:=S9.bJ 1 E;have Ay:=DI.bJ 2 E;rw[aga h1];refine⟨E,A1,c1,A2,c2,?_⟩;dsimp only;exact Ay
 refine zN 11 ?_;refine vv (aj E E (aG (St.cl 2 S6 E Bv))) ?_;by_cases h2:gv=1073741824
 ·refine zN 7 ?_;refine vv (v:=.agg #[D 14,D 0,D 0,D 0]) gH ?_;refine sa 0 S6 kQ ?_;intro w12 Ld;refine zN 7 ?_;have mZ:=Ld.aO [1,0];have jm:=mZ.bJ 1 E;have o8:=jm.bJ 2 E;rw[agb h1 h2];refine⟨E,A1,c1,A2,c2,?_⟩;dsimp only;exact o8
 refine zN 9 ?_;have J:=S6.drew;refine fM 21 20 J [] ?_;iterate 4 refine gW ?_
 refine gk (v:=D ep) 4 E J (λ_ GI=>(aj E E (aG (St.cl 2 GI E yC)))) ?_;iterate 4 refine gW ?_
 refine gk (v:=D gv) 9 E J (λ_ az9=>(aj E E (aG (St.cl 2 az9 E Bv)))) ?_;refine gk (v:=.agg #[D ep,D gv]) 10 E J (λ_ _=>gH) ?_;iterate 4 refine gW ?_
 refine gk (v:=.slice A1 rs.length c1) 15 E J (λ_ anU=>(aj E E (aG (St.cl 2 anU E qh)))) ?_;obtain⟨b34,o35,rfl⟩:=Rd.addr (St.Rn 3 J E) Y;obtain⟨I,O⟩:=JH 0 (St.Rn 3 J E) Y;refine gk 16 E J (λ_ _=>ko 0) ?_;refine gk (v:=.agg #[D I.no,D I.body]) 17 E J (λ_ aAa=>(aj E E (dP (cs:=gF.cells I) (Rd.wZ (St.Rn 3 aAa E) (λ_ _ h=>bE (enc:=gF.cells) (sz:=2) (λ_=>E) O h))))) ?_;refine gk (v:=.agg #[D ep,D gv,D I.no,D I.body]) 18 E J (λ_ _=>gH) ?_;refine fE (m:=1) (r:=19) kQ ?_;refine mW (i:=19) E E (V:=λb=>pV b 0) (row:= #[D 0,D 0,D 0,D 0]) (t:=225) J (wn E) E E (jd E (zeroValue225 _) E) ?_;intro b41 SX rW;refine gW ?_;refine fC kQ E E E ?_;refine sa 0 rW kQ ?_;intro N7 M;refine zQ ?_;refine jg ?_;refine zN 8 ?_;refine vv (aj E E (aG (St.cl 3 M E qh))) ?_;have hcp:=eu (M.own 4 E);obtain⟨A46,aAb,aAc,aAd⟩:=BP (P:=prog) (t:=176) (s:=2) (A:=(aD b34 o35)) (n:=rs.length) (c:=c1) (lo:=some (D 1)) (hi:=none) (mx:=none) (l:=1) (k:=rs.length) (q:=c1) underlying176 kQ (ah5 1 E Y) Y (Nat.le_refl _) Y;refine vv (v:=.slice A46 (rs.length-1) (c1-1)) (jZ E E (jy E) nZ nZ (aAb _)) ?_;have wu:=M.seal 4 E (agk (aAc _ _ _ (St.Rn 4 M E))) (λa h=>aAd a h);refine zN 3 ?_;refine jH 3 wu kQ ?_ (hs:=by exact IX);intro w51 pG;refine zN 3 ?_;have Z:=pG.drew;refine fM 13 9 Z [5] ?_;iterate 5 refine gW ?_
 refine gk (v:=.slice A2 ls.length c2) 5 E (St.del 5 Z) (λ_ abo=>(aj E E (aG (St.cl 3 abo E tN)))) ?_;refine gW ?_;refine fE (m:=5) (r:=7) kQ ?_;refine mW (i:=7) E E (V:=λb=>.slice (aD b 0) 1 1) (row:= #[D ep,D gv,D I.no,D I.body]) (t:=225) Z (wn E) E E (aV (vs:=[(0,.agg #[D ep,D gv,D I.no,D I.body])]) E xR kQ) ?_;intro b61 ZK xg;refine gW ?_;refine fE (m:=4) (r:=8) kQ ?_;refine lG (i:=8) E E (news:=[D ep,D gv,D I.no,D I.body]) (xs':=(ls++[(⟨ep,gv,I⟩:Ls)]).flatMap Ls.cells) 6 xg (wn E) E E E E E E (St.mD (xs:=[D ep,D gv,D I.no,D I.body]) 0 xg E E E) underlying177 aeB E dQ (bY E) lQ Y (jB (enc:=Ls.cells) E E) ?_;intro A64 c65 VZ aJp aJq uL;refine gW ?_;refine fC kQ E E E ?_;refine zN 3 ?_;refine jH 4 uL kQ ?_ (hs:=by exact IY);intro w70 rX;refine zQ ?_;refine jg ?_;refine zN 7 ?_;refine vv (aj E E (aG (St.cl 4 rX E Bv))) ?_;refine vv (v:=D (gv+1)) iI ?_;refine zN 3 ?_;refine jH 4 rX kQ ?_ (hs:=by exact ZE);intro w72 uq;refine zN 5 ?_;refine vv (aj E E (dP (cs:=[D ep,D gv]) (St.rg 1 uq E (mE (x:=0) (m:=2) E)))) ?_;refine zN 3 ?_;refine vv (v:=.agg #[D 0,D ep,D gv,D I.body]) gH ?_;refine sa 2 uq kQ ?_;intro w74 Em;refine zN 5 ?_;have M5:=Em.aO [3,2,1,0];have DC:=M5.bJ 2 E;have hl1:(rs.drop 1).length=rs.length-1:=by simp
 have hl2:(ls++[(⟨ep,gv,I⟩:Ls)]).length=ls.length+1:=by simp
 rw[aqI O h2];refine⟨E,A46,(c1-1),A64,c65,?_⟩;dsimp only;rw[hl1,hl2];exact DC
abbrev bR (b:aU)(A:Option Addr)(c:Nat):Array Value:= #[D b.Gq,D b.ep,D b.fr,D b.tg,D b.rd,.slice A b.Gs.length c]
abbrev zB:Array Value:= #[D 0,D 0,D 0,D 0,D 0,.slice none 0 0]
abbrev rR (k q e p:Int)(x:Ev):Array Value:= #[D k,D q,D e,D p,D x.kind,D x.Mr,D x.id,D x.body,D x.MF,D x.Nc]
def agl:flat tP 30 47=some [.at_ (.int .i64),.at_ (.int .i64)]:=kQ
def agm:EG tP 30 47=true:=kQ
def akM(xs:List Value):mkV tP 47 xs=.agg xs.toArray:=by
 unfold mkV;rw[underlying47]
def UU(a b c d:Int)(w:World):(binOp .eql 47 (.agg #[D a,D b]) (.agg #[D c,D d])).run tP w=.ok (.bool (a==c&&b==d)) w:=by
 have h:=xu (P:=tP) w agl agm akM (xs:=[D a,D b]) (ys:=[D c,D d]) ⟨⟨_,E⟩,⟨_,E⟩,trivial⟩ ⟨⟨_,E⟩,⟨_,E⟩,trivial⟩;rw[show eD [D a,D b] [D c,D d]=(a==c&&b==d) by simp[eD,uh]]at h;exact h
def yQ(he hn:Int)(x:Ls):Bool:=x.fO==he&&x.Nc==hn
def QY(he hn:Int)(ls:List Ls):Int:=match ls.findIdx? (yQ he hn)with
 |some k=>(k:Int)
 |none=> -1
def Le{he hn:Int}{ls:List Ls}(h:∀(j:Nat) (y:Ls),j<ls.length->ls[j]? =some y->yQ he hn y=false):QY he hn ls= -1:=by
 unfold QY;rw[findIdx?_eq_none_iff.2 (λy J=>by obtain⟨j,I,e⟩:=getElem_of_mem J;exact h j y I (by rw[getElem?_eq_getElem I,e]))]
def SY{he hn:Int}{ls:List Ls}{k:Nat}{x:Ls}(h:∀(j:Nat) (y:Ls),j<k->ls[j]? =some y->yQ he hn y=false)(I:ls[k]? =some x)(J:yQ he hn x=true):QY he hn ls=k:=by
 unfold QY;obtain⟨M,e⟩:=List.getElem?_eq_some_iff.1 I;rw[findIdx?_eq_some_iff_getElem.2 ⟨M,by rw[e];exact J,λj O=>by rw[h j _ O (getElem?_eq_getElem Y)];simp⟩]
def GJ{hn:Int}{ls:List Ls}(h:∀x∈ls,¬x.Nc=hn):(ls.filter λx=>decide (x.Nc≠hn))=ls:=filter_eq_self.2 λx I=>by simpa using h x I
def agn{hn:Int}{ls:List Ls}{k:Nat}{x:Ls}(J:ls[k]? =some x)(M:x.Nc=hn)(hu:∀(i j:Nat) (a b:Ls),ls[i]? =some a->ls[j]? =some b->a.Nc=b.Nc->i=j):(ls.filter λx=>decide (x.Nc≠hn))=ls.eraseIdx k:=by
 obtain⟨hk,e⟩:=List.getElem?_eq_some_iff.1 J;have e1:ls=ls.take k++x::ls.drop (k+1):=by rw[<-e,<-drop_eq_getElem_cons hk,take_append_drop]
 rw[eraseIdx_eq_take_drop_succ]
 conv=>lhs;rw[e1]
 rw[filter_append,filter_cons,if_neg (by simp[M])]
 congr 1
 ·refine GJ λy O h=>?_;obtain⟨j,Z,I⟩:=getElem_of_mem O;rw[length_take]at Z;have:=hu j k y x (by rw[getElem_take]at I;rw[<-I];exact getElem?_eq_getElem Y) J (by rw[h,M]);omega
 refine GJ λy O h=>?_;obtain⟨j,Z,I⟩:=getElem_of_mem O;rw[length_drop]at Z;have:=hu (k+1+j) k y x (by rw[getElem_drop]at I;rw[<-I];exact getElem?_eq_getElem Y) J (by rw[h,M]);omega
def Yi(x:Ls)(b:Nat)(he hn:Int)(w:World)(h:Rd w w.heap.size 2 (aD b 4) 1 [D he,D hn]):
 Calls tP 129 #[.agg #[D x.fO,D x.Nc,D x.Rk.no,D x.Rk.body],pV b 0] w (FM w (x.fO==he&&x.Nc==hn)):=by
 have S:=(St.start w).bV h;refine gP 9 func129 ?_;refine cw [0,1] ?_;refine zN 2 ?_;refine iU S ?_;intro b1 J I;refine zN 6 ?_;refine vv (aj E E (dP (cs:=[D x.fO,D x.Nc]) (St.rg 0 I E (mE (x:=0) (m:=2) E)))) ?_;refine zQ ?_;refine vv (v:=.agg #[D he,D hn]) (aj E E (dP (cs:=[D he,D hn]) (Rd.wZ (off:=4) (j:=0) (St.rd 1 I E) (λi u h=>by rw[Nat.zero_add];exact h)))) ?_;refine vv (v:=.bool (x.fO==he&&x.Nc==hn)) (bM E E E (C9 kQ (UU x.fO x.Nc he hn _))) ?_;refine zN 5 ?_;exact⟨E,I.Nr⟩
def UW(A:Option Addr)(c b:Nat)(he hn:Int)(ls:List Ls)(w:World)(h:Rd w w.heap.size 4 A ls.length (ls.flatMap Ls.cells))(h2:Rd w w.heap.size 2 (aD b 4) 1 [D he,D hn])(hl:ls.length<=500):
 Calls tP 128 #[.slice A ls.length c,.func (.func 129) #[] #[pV b 0]] w (WX w (QY he hn ls)):=by
 have S:=((St.start w).bV h).bV h2;refine gP 19 func128 ?_;refine cw [0,1] ?_;refine zN 14 ?_;refine fJ (X:=Nat) (λxv=>[(0,.slice A ls.length c),(1,.func (.func 129) #[] #[pV b 0]),(4,D 0),(7,D (ls.length:Int)),(8,D (xv:Int))]) (λxv wr=>(xv<=ls.length)/\(∀(j:Nat) (y:Ls),j<xv->ls[j]? =some y->yQ he hn y=false)/\St w.heap.size w wr [.rd 2 (aD b 4) 1 [D he,D hn],.rd 4 A ls.length ((ls).flatMap Ls.cells)]) (λxv=>ls.length-xv) (0) ?_ ?_ ?_
 ·exact⟨zero_le _,λj y hj=>absurd hj (not_lt_zero _),S⟩
 ·exact Av
 rintro k w1 ⟨hi3,I,J⟩
 try dsimp only at hi3 I J
 refine bI (l':=[(0,.slice A ls.length c),(1,.func (.func 129) #[] #[pV b 0]),(4,D 0),(7,D (ls.length:Int)),(8,D (k:Int))]) Av (aQ (aC ?_));by_cases h5:(k:Int)< (ls.length:Int)
 ·refine zN 20 ?_;obtain⟨b6,o7,rfl⟩:=Rd.addr (St.rd 1 J E) Y;obtain⟨O,Z⟩:=JH k (St.rd 1 J E) Y;refine vv (ko k) ?_;refine vv (aj E E (dP (cs:=Ls.cells O) (Rd.wZ (St.rd 1 J E) (λ_ _ h=>bE (enc:=Ls.cells) (sz:=4) (λ_=>E) Z h)))) ?_;have HC:=λw h=>Yi O b he hn w h
  cases M:yQ he hn O
  ·rw[show(O.fO==he&&O.Nc==hn)=false from M]at HC;refine wJ eQ (HC _ (St.rd 0 J E)) ?_;rintro _ ZL ⟨rfl,aAe⟩;refine⟨_,E,?_⟩;have Ay:=J.on aAe;refine zN 7 ?_;refine vv (v:=D ((k+1:Nat):Int)) iI ?_;refine zN 2 ?_;refine bC (k+1) ?_ Av (by first|omega|(dsimp only;omega));exact⟨Y,(λj y hj hy=>(Nat.lt_succ_iff_lt_or_eq.1 hj).elim (λh=>I j y h hy) (λh=>by rw[h,Z]at hy;cases hy;exact M)),Ay⟩
  rw[show(O.fO==he&&O.Nc==hn)=true from M]at HC;refine wJ eQ (HC _ (St.rd 0 J E)) ?_;rintro _ En ⟨rfl,aAf⟩;refine⟨_,E,?_⟩;have mZ:=J.on aAf;refine zN 16 ?_;exact⟨iq (SY I Z M).symm,mZ.Nr⟩
 refine zN 17 ?_;exact⟨iq (Le (λj y hj hy=>I j y Y hy)).symm,J.Nr⟩
def akN{he hn:Int}{ls:List Ls}(h:¬ ∃(k:Nat) (x:Ls),ls[k]? =some x/\yQ he hn x=true/\ ∀(j:Nat) (y:Ls),j<k->ls[j]? =some y->yQ he hn y=false):∀y∈ls,yQ he hn y=false:=by
 intro y I
 rcases hf:ls.findIdx? (yQ he hn)with _|k
 ·exact findIdx?_eq_none_iff.1 hf y I
 obtain⟨J,h1,M⟩:=findIdx?_eq_some_iff_getElem.1 hf;refine absurd ⟨k,ls[k],getElem?_eq_getElem J,h1,λj z O Z=>?_⟩ h;have:=M j O;obtain⟨hj',e⟩:=List.getElem?_eq_some_iff.1 Z;rw[e]at this;simpa using this
def akO{he hn:Int}{x:Ls}(h:yQ he hn x=true):x.Nc=hn:=by simp[yQ]at h;exact h.2
def akP{he hn ep:Int}{x:Ls}(h:x.fO=ep)(h1:he=ep)(I:x.Nc=hn):yQ he hn x=true:=by simp[yQ,h,h1,I]
def abp{B g k c1 c2:Nat}{w0 w:World}{fs:List J8}{A1 A2:Option Addr}{rs:List gF}{ls:List Ls}{W:kN}{ep nx gv kd id bd he hn:Int}(S:St B w0 w (.Mg g (dB ep nx gv (.slice A1 rs.length c1) (.slice A2 ls.length c2) W) 219:: .own 222 2 (.slice A1 rs.length c1) rs.length ((rs).flatMap gF.cells):: .own 225 4 (.slice A2 ls.length c2) ls.length ((ls).flatMap Ls.cells)::fs))(hk:k<4)(hlen:rs.length+ls.length<=500)(hnx:0<=nx/\nx<=1073741824)(hgv:0<=gv/\gv<=1073741824)(fO:0<=ep/\ep<=1048576)(hE:∀x∈ls,x.fO=ep)(hU:∀(i j:Nat) (a b:Ls),ls[i]? =some a->ls[j]? =some b->a.Nc=b.Nc->i=j):
 Calls tP 123 #[pV g 0,.agg #[D kd,D (k:Int),D id,D bd,D he,D hn]] w (EN B w0 g fs (EL ⟨ep,nx,gv,rs,ls,W⟩ he hn)):=by
 refine gP 41 func123 ?_;refine cw [0,1] ?_;refine zN 2 ?_;refine iU S ?_;intro b1 w2 S3;refine gD S3 tK ?_;intro b4 w5 S6;refine zN 5 ?_;refine fu S6 mixed kQ ?_;refine zN 7 ?_;refine uv (v:=D ep) (λ_ anV=>(aj E E (aG (St.cl 2 anV E yC)))) ?_;by_cases h1:he=ep
 ·refine zQ ?_;refine eP λw16 I=>?_;refine zN 10 ?_;refine vv (aj E E (aG (St.cl 2 I E tN))) ?_;refine vv JJ ?_;have HI:=λA c w h h2=>UW A c b1 he hn ls w h h2 Y
  rcases Classical.em (∃(k:Nat) (x:Ls),ls[k]? =some x/\yQ he hn x=true/\ ∀(j:Nat) (y:Ls),j<k->ls[j]? =some y->yQ he hn y=false)with⟨kk,x,hx,hm,hbf⟩|Nc
  ·rw[SY hbf hx hm]at HI;have Z:=(List.getElem?_eq_some_iff.1 hx).1;refine dJ eQ (HI _ _ _ (St.Rn 4 I E) (aeC 1 I E E (λj u h=>by rcases j with _|_|_<;>first|exact h|(simp at h)))) ?_;rintro _ M0 ⟨rfl,anR⟩;refine⟨_,E,?_⟩;have J:=I.on anR;refine zN 20 ?_;refine vv (aj E E (aG (St.cl 2 J E tN))) ?_;refine zN 2 ?_;refine vv (v:=D ((kk+1:Nat):Int)) iI ?_;obtain⟨g2,rfl⟩:=EJ (J.own 4 E) Y;refine dJ eQ (UE g2 ls.length c2 kk _ (ls.flatMap Ls.cells) _ (J.own 4 E) (ZH _) Z) ?_;rintro _ FN ⟨rfl,aAg,M⟩;refine⟨_,E,?_⟩;rw[Kj (enc:=Ls.cells) (sz:=4) (λ_=>E)]at M;have jY:=J.ad5 4 E aAg M;refine zN 3 ?_;refine jH 2 jY kQ ?_ (hs:=by exact IY);intro w25 sU;refine zN 5 ?_;refine sa 0 sU kQ ?_;intro NZ tC;refine zN 5 ?_;have tF:=tC.aO [1,0];have zP:=tF.bJ 1 E;have oW:=zP.bJ 2 E;have hel:(ls.eraseIdx kk).length=ls.length-1:=length_eraseIdx_of_lt Z;have hfo:=agn hx (akO hm) hU;rw[aqJ h1 (by rw[hfo,hel];omega),hfo];refine⟨E,A1,c1,(aD g2 0),c2,?_⟩;dsimp only;rw[hel];exact oW
  have O:=akN Nc;rw[Le (λj y _ hy=>O y (mem_of_getElem? hy))]at HI;refine dJ eQ (HI _ _ _ (St.Rn 4 I E) (aeC 1 I E E (λj u h=>by rcases j with _|_|_<;>first|exact h|(simp at h)))) ?_;rintro _ w32 ⟨rfl,aAh⟩;refine⟨_,E,?_⟩;have vR:=I.on aAh;refine zN 13 ?_;refine vv (v:=.agg #[D 7,D 0,D 0,D 0]) gH ?_;refine sa 0 vR kQ ?_;intro ZI tH;refine zN 6 ?_;have yJ:=tH.aO [1,0];have Az:=yJ.bJ 1 E;have xV:=Az.bJ 2 E;rw[agc h1 (by rw[GJ (λy hy hyn=>by have:=O y hy;rw[akP (hE y hy) h1 hyn]at this;cases this)])];refine⟨E,A1,c1,A2,c2,?_⟩;dsimp only;exact xV
 refine zQ ?_;refine eP λw41 Eo=>?_;refine zN 4 ?_;refine vv (v:=.agg #[D 11,D 0,D 0,D 0]) gH ?_;refine sa 0 Eo kQ ?_;intro w43 FQ;refine zN 6 ?_;have pQ:=FQ.aO [1,0];have xk:=pQ.bJ 1 E;have zx:=xk.bJ 2 E;rw[abd h1];refine⟨E,A1,c1,A2,c2,?_⟩;dsimp only;exact zx
def abq{B g k c1 c2:Nat}{w0 w:World}{fs:List J8}{A1 A2:Option Addr}{rs:List gF}{ls:List Ls}{W:kN}{ep nx gv kd id bd he hn:Int}(S:St B w0 w (.Mg g (dB ep nx gv (.slice A1 rs.length c1) (.slice A2 ls.length c2) W) 219:: .own 222 2 (.slice A1 rs.length c1) rs.length ((rs).flatMap gF.cells):: .own 225 4 (.slice A2 ls.length c2) ls.length ((ls).flatMap Ls.cells)::fs))(hk:k<4)(hlen:rs.length+ls.length<=500)(hnx:0<=nx/\nx<=1073741824)(hgv:0<=gv/\gv<=1073741824)(fO:0<=ep/\ep<=1048576)(hA:rJ rs)(hN:(oh rs ls).Nodup):
 Calls prog 124 #[pV g 0,.agg #[D kd,D (k:Int),D id,D bd,D he,D hn]] w (EN B w0 g fs (EM ⟨ep,nx,gv,rs,ls,W⟩)):=by
 refine gP 63 func124 ?_;refine cw [0,1] ?_;refine zN 2 ?_;refine iU S ?_;intro b1 w2 S3;refine gD S3 tK ?_;intro b4 w5 S6;refine zN 10 ?_;refine vv (aj E E (aG (St.cl 2 S6 E yC))) ?_;by_cases h1:ep=1048576
 ·refine zN 6 ?_;refine vv (v:=.agg #[D 14,D 0,D 0,D 0]) gH ?_;refine sa 0 S6 kQ ?_;intro w7 S8;refine zN 6 ?_;have S9:=S8.aO [1,0];have DI:=S9.bJ 1 E;have Ay:=DI.bJ 2 E;rw[agf h1];refine⟨E,A1,c1,A2,c2,?_⟩;dsimp only;exact Ay
 refine zN 13 ?_;refine vv (aj E E (aG (St.cl 2 S6 E tN))) ?_;refine zN 5 ?_;refine fJ (X:=Nat×(Option Addr)×Nat) (λJ=>[(0,pV g 0),(4,pV b4 0),(5,.bool false),(19,.slice A2 ls.length c2),(20,D (ls.length:Int)),(21,D (J.1:Int))]) (λJ wr=>(J.1<=ls.length)/\St B w0 wr ((.Mg b4 #[D 0,D 0,D 0,D 0] 54)::(.Mg b1 #[D kd,D (k:Int),D id,D bd,D he,D hn] 49)::(.Mg g (dB ep nx gv (.slice J.2.1 (rs.length+J.1) J.2.2) (.slice A2 ls.length c2) W) 219)::(.own 222 2 (.slice J.2.1 (rs.length+J.1) J.2.2) (rs.length+J.1) ((rs++(ls.take J.1).map (·.Rk)).flatMap gF.cells))::(.own 225 4 (.slice A2 ls.length c2) ls.length ((ls).flatMap Ls.cells))::fs)) (λJ=>ls.length-J.1) (0,A1,c1) ?_ ?_ ?_
 ·exact⟨zero_le _,by dsimp only;rw[show rs++(ls.take 0).map (·.Rk)=rs by simp];exact S6⟩
 ·exact rU
 rintro⟨q,Ab,cb⟩ w12 ⟨Mi,M⟩
 try dsimp only at Mi M
 refine bI (l':=[(0,pV g 0),(4,pV b4 0),(5,.bool false),(19,.slice A2 ls.length c2),(20,D (ls.length:Int)),(21,D (q:Int))]) rU (aQ (aC ?_));by_cases h15:(q:Int)< (ls.length:Int)
 ·refine zN 11 ?_;obtain⟨b16,o17,rfl⟩:=Rd.addr (St.Rn 4 M E) Y;obtain⟨I,asU⟩:=JH q (St.Rn 4 M E) Y;refine vv (ko q) ?_;refine vv (aj E E (dP (cs:=Ls.cells I) (Rd.wZ (St.Rn 4 M E) (λ_ _ h=>bE (enc:=Ls.cells) (sz:=4) (λ_=>E) asU h)))) ?_;refine gD M asI ?_;intro b20 FN jY;refine sa 0 jY kQ ?_;intro JN kF;refine zN 2 ?_;have Z:=kF.drew;refine fM 14 10 Z [4] ?_;iterate 5 refine gW ?_
  refine gk (v:=.slice Ab (rs.length+q) cb) 5 E (St.del 4 Z) (λ_ abr=>(aj E E (aG (St.cl 3 abr E qh)))) ?_;refine gW ?_;refine gk (v:=.agg #[D I.Rk.no,D I.Rk.body]) 7 E (St.del 4 Z) (λ_ anU=>(aj E E (dP (cs:=[D I.Rk.no,D I.Rk.body]) (St.rg 0 anU E (mE (x:=2) (m:=2) E))))) ?_;refine fE (m:=5) (r:=8) kQ ?_;refine mW (i:=8) E E (V:=λb=>.slice (aD b 0) 1 1) (row:= #[D I.Rk.no,D I.Rk.body]) (t:=222) Z (wn E) E E (aV (vs:=[(0,.agg #[D I.Rk.no,D I.Rk.body])]) E xR kQ) ?_;intro b34 ZI tH;refine gW ?_;refine fE (m:=4) (r:=9) kQ ?_;refine lG (i:=9) E E (news:=[D I.Rk.no,D I.Rk.body]) (xs':=(rs++(ls.take (q+1)).map (·.Rk)).flatMap gF.cells) 5 tH (wn E) E E E E E E (St.mD (xs:=[D I.Rk.no,D I.Rk.body]) 0 tH E E E) underlying176 VQ E dQ (bY E) lQ Y (jB (enc:=gF.cells) (by rw[append_assoc,Kq (f:=λx:Ls=>x.Rk) asU]) E) ?_;intro A37 c38 w39 aJr aJs vS;refine gW ?_;refine fC kQ E E E ?_;refine zN 3 ?_;refine jH 4 vS kQ ?_ (hs:=by exact IX);intro w43 FQ;refine zQ ?_;refine jg ?_;refine zN 3 ?_;refine vv (v:=D ((q+1:Nat):Int)) iI ?_;refine zN 2 ?_;have pQ:=FQ.aO [1,0];refine bC (q+1,A37,c38) ?_ rU (by first|omega|(dsimp only;omega));exact⟨uQ,pQ⟩
 refine zN 12 ?_;obtain rfl:q=ls.length:=Y;have O:=M;rw[take_length]at O;refine zN 4 ?_;refine vv (aj E E (aG (St.cl 2 O E qh))) ?_;have hml:(rs++ls.map (·.Rk)).length=rs.length+ls.length:=by simp
 have HS:=λA c w (ho:World.ownsRow w B 222 2 (.slice A (rs++ls.map (·.Rk)).length c) (rs++ls.map (·.Rk)).length ((rs++ls.map (·.Rk)).flatMap gF.cells))=>UO A c (rs++ls.map (·.Rk)) w ho Y;rw[hml]at HS;refine dJ eQ (HS Ab cb _ (O.own 3 E)) ?_;rintro _ w47 ⟨rfl,d49,asV,aAi,asW,asX⟩;refine⟨_,E,?_⟩;have AA:=O.append 3 E asX asW (.inl E);have hdl:=agh asV aAi hA hN;clear HS asW asX O;refine zN 8 ?_;refine jH 2 AA kQ ?_ (hs:=by exact IY);intro w54 vo;refine zN 8 ?_;refine vv (aj E E (aG (St.cl 2 vo E yC))) ?_;refine vv (v:=D (ep+1)) iI ?_;refine zN 3 ?_;refine jH 2 vo kQ ?_ (hs:=by exact akx);intro w56 vQ;refine zN 8 ?_;refine jH 2 vQ kQ ?_ (hs:=by exact ZE);intro w58 Ca;refine zN 5 ?_;refine sa 0 Ca kQ ?_;intro w60 Ie;refine zN 5 ?_;have JO:=Ie.aO [1,0];have xg:=JO.bJ 1 E;have S64:=xg.seal 2 E Rd.Q8 (λ(a:Addr) (h:(none:Option Addr)=some a)=>by cases h);have hln:d49.length=rs.length+ls.length:=by rw[asV.length_eq,hml]
 rw[aqK h1,<-hdl];refine⟨E,Ab,cb,none,0,?_⟩;dsimp only;rw[hln];exact S64
section
variable {P:Program}{N:Nat}{l l':Nj}{w w' w0:World}{ops:Array Oper}{o:Oper}{rest:List Oper}{Q:Exit->Act->World->Prop}{d B:Nat}{v p:Value}{fs fs':List J8}{b m f:Nat}{row row' cs:Array Value}{t ty:TypeId}{x y:Operand}
def saq(i:Nat)(S:St B w0 w fs)(I:(P.info? ty).map (·.size)=some m)(h:∀w',St B w0 w' fs'->wL P N ops Q rest l w')(hw:o.guard=none:=by exact E)(J:o.dst=none:=by exact E)(M:o.op=.store ty x y:=by exact E)
  (O:ev l x=some (.pointer (some ⟨b,0,none⟩)):=by exact E) (Z:ev l y=some v:=by exact E) (hi:fs[i]? =some (.Mg b row t):=by exact E) (hv:v.cells=cs:=by exact E) (hm:cs.size=m:=by exact E)
  (h1:∀u∈cs.toList,u.oneCell'=true:=by exact Kn E E) (hr:ble m row.size=true:=by exact E) (hs:row.size=cs.size:=by exact E) (hf:iT (.Mg b cs t) fs i fs':=by repeat' first|exact iT.z|apply iT.s):wL P N ops Q (o::rest) l w:=
 Fz i S (wn hw) J M O Z hi hv I hm h1 (by rw[Nat.zero_add];exact le_of_ble_eq_true hr) (rF hs) hf.eq h
def ZM{C:World->Prop}{n:Nat}{listed listed':Array Bool}(j:Nat)(I:ops[j]? =some o)(i:Nat)(S:St B w0 w fs)(J:(P.info? ty).map (·.size)=some m)(h:∀w',St B w0 w' fs'->C w'/\wA P N ops Q C n listed' l w')(M:listed.setIfInBounds j true=listed':=by exact E)
  (hw:o.guard=none:=by exact E) (O:o.dst=none:=by exact E) (Z:o.op=.store ty x y:=by exact E) (hx:ev l x=some (.pointer (some ⟨b,0,none⟩)):=by exact E) (hy:ev l y=some v:=by exact E) (hi:fs[i]? =some (.Mg b row t):=by exact E) (hv:v.cells=cs:=by exact E)
  (hm:cs.size=m:=by exact E) (h1:∀u∈cs.toList,u.oneCell'=true:=by exact Kn E E) (hr:ble m row.size=true:=by exact E) (hs:row.size=cs.size:=by exact E) (hf:iT (.Mg b cs t) fs i fs':=by repeat' first|exact iT.z|apply iT.s):wK P N ops Q C n j listed l w:=
 uH I M i S (wn hw) O Z hx hy hi hv J hm h1 (by rw[Nat.zero_add];exact le_of_ble_eq_true hr) (rF hs) hf.eq h
end
def Ig(e:Ev)(w:World):Calls prog 78 #[e.val] w (WX w (aZ e)):=(HY e w).mono λ_ _ h=>⟨h.1,h.2⟩
def Ku{B:Nat}{w0 w:World}(S:St B w0 w []):St B w0 w [.cZ 2 none 0 [],.cZ 4 none 0 []]:=
 (aA S).cons ⟨Rd.Q8,λa h=>by cases h⟩ λk I=>by cases I
def xE(ep nx gv kd pr id bd he hn:Int)(A1 A2:Option Addr)(c1 c2:Nat)(rs:List gF)(ls:List Ls)(W:kN)(w:World)(h1:Rd w w.heap.size 2 A1 rs.length (rs.flatMap gF.cells))(h2:Rd w w.heap.size 4 A2 ls.length (ls.flatMap Ls.cells))(hb1:rs.length*16<=reachBytes)(hb2:ls.length*32<=reachBytes):
 Calls prog 111 #[.agg (dB ep nx gv (.slice A1 rs.length c1) (.slice A2 ls.length c2) W),.agg #[D kd,D pr,D id,D bd,D he,D hn]] w (akJ w (iO ⟨ep,nx,gv,rs,ls,W⟩ ⟨kd,pr,id,bd,he,hn⟩)):=by
 have S:=((St.start w).bV h2).bV h1;refine gP 70 func111 ?_;refine cw [0,1] ?_;refine zN 2 ?_;refine iU S ?_;intro b1 w2 S3;refine iU S3 ?_;intro b4 w5 S6;refine mV (V:=λb=>pV b 0) (row:=dB 0 0 0 (.slice none 0 0) (.slice none 0 0) jI) (t:=183) S6 (wn E) E E (jd E (zeroValue183 _) E) ?_;intro b7 w8 S9;refine gD S9 tK ?_;intro b10 Ib pF;refine zN 8 ?_;refine Rq eQ pF (aeQ ep nx gv A1 A2 c1 c2 rs ls W _ (St.rd 4 pF E) (St.rd 5 pF E) hb1 hb2) ?_;intro En mZ;refine zN 6 ?_;by_cases h0:gy ep nx gv rs ls W=0
 ·obtain⟨hR,hW,hRd,hLs,hNd⟩:=P8 h0;unfold R8 at hR;refine zN 10 ?_;refine Rq eQ mZ (Ig ⟨kd,pr,id,bd,he,hn⟩ _) ?_;intro w16 zR;refine zN 6 ?_;by_cases h1:aZ ⟨kd,pr,id,bd,he,hn⟩=0
  ·have hkd:=akL h1;have hpr:=ZG h1;simp only at hkd hpr;obtain⟨k,hk0⟩:∃k:Nat,pr=(k:Int):=⟨pr.toNat,by omega⟩;subst hk0;have hk:k<4:=Y;refine zN 9 ?_;refine vv (v:=.agg (dB ep nx gv (.slice A1 rs.length c1) (.slice A2 ls.length c2) W)) gH ?_;refine iU zR ?_;intro h ZN vC;refine zN 4 ?_;have jY:=vC.drew;refine aK 16 jY [0] ?_;refine aL 3 ?_;refine ak (v:=.slice A1 rs.length c1) 3 E (St.del 0 jY) (λ_ anW=>(aj E E (aG (St.cl 3 anW E qh)))) ?_;refine dG ?_;refine ak (v:=.slice A2 ls.length c2) 6 E (St.del 0 jY) (λ_ anX=>(aj E E (aG (St.cl 3 anX E tN)))) ?_;refine bg 4 ?_;refine kE 4 E eQ (aeO A1 rs.length c1 _ _ (St.rd 5 jY E) (agj rs) hb1) ?_;rintro _ w33 ⟨J,M,rfl,aAj,aAk⟩;refine⟨_,E,?_⟩;have qY:=jY.uG aAj aAk;refine dG ?_;refine bg 7 ?_;refine kE 7 E eQ (aeP A2 ls.length c2 _ _ (St.rd 7 qY E) (ZH ls) hb2) ?_;rintro _ w39 ⟨O,Z,rfl,anS,aAl⟩;refine⟨_,E,?_⟩;have vS:=qY.uG anS aAl;refine aL 4 ?_;refine bg 11 ?_;refine snz 11 E 2 vS kQ ?_ (hs:=by exact IX);intro N7 pQ;refine aL 4 ?_;refine bg 15 ?_;refine snz 15 E 2 pQ kQ ?_ (hs:=by exact IY);intro w49 wu;refine aL 2 ?_;refine zN 3 ?_;refine Kk (k:=3) wu (wn E) E E E ?_;intro b51 w52 CS;refine zQ ?_;refine vv JJ ?_;refine kV (e:=226) 0 CS (wn E) E E E E E E underlying3 underlying227 dQ dQ ?_;intro w54 vo;refine zQ ?_;refine vv JJ ?_;refine kV (e:=226) 0 vo (wn E) E E E E E E underlying3 underlying227 dQ dQ ?_;intro w56 vQ;refine zQ ?_;refine vv JJ ?_;refine kV (e:=226) 0 vQ (wn E) E E E E E E underlying3 underlying227 dQ dQ ?_;intro w58 Ca;refine zQ ?_;refine vv JJ ?_;refine kV (e:=226) 0 Ca (wn E) E E E E E E underlying3 underlying227 dQ dQ ?_;intro w60 Ie;refine zN 3 ?_
   rcases(by omega:kd=1\/kd=2\/kd=3\/kd=4)with rfl|rfl|rfl|rfl
   ·refine vv (v:=.func (.func 121) #[pV h 0] #[]) (kr 0 Ie E E E E underlying3 underlying227 (zeroValue226 _) dQ E) ?_;refine zN 7 ?_;have JO:St w.heap.size w w60 [.Mg h (dB ep nx gv (.slice J rs.length M) (.slice O ls.length Z) W) 219,.own 222 2 (.slice J rs.length M) rs.length ((rs).flatMap gF.cells),.own 225 4 (.slice O ls.length Z) ls.length ((ls).flatMap Ls.cells),.loc b51 (qw prog 3 (λy=>if y=4 then some (.func (.func 124) #[pV h 0] #[])else(λy=>if y=3 then some (.func (.func 123) #[pV h 0] #[])else(λy=>if y=2 then some (.func (.func 122) #[pV h 0] #[])else(λy=>if y=1 then some (.func (.func 121) #[pV h 0] #[])else(λ_=>none) y) y) y) y) 4),.Mg b10 #[D 0,D 0,D 0,D 0] 54,.Mg b7 (dB 0 0 0 (.slice none 0 0) (.slice none 0 0) jI) 183,.Mg b4 #[D 1,D (k:Int),D id,D bd,D he,D hn] 49,.Mg b1 (dB ep nx gv (.slice A1 rs.length c1) (.slice A2 ls.length c2) W) 183,.rd 2 A1 rs.length ((rs).flatMap gF.cells),.rd 4 A2 ls.length ((ls).flatMap Ls.cells)]:=Ie.re [3,2,1,0,4,5,6,7,8,9] dQ;have HC:=abt (kd:=1) (k:=k) (id:=id) (bd:=bd) (he:=he) (hn:=hn) JO hk Y Y Y Y;rw[<-show Nu ⟨ep,nx,gv,rs,ls,W⟩ ⟨1,(k:Int),id,bd,he,hn⟩=BU ⟨ep,nx,gv,rs,ls,W⟩ k id bd from by simp[Nu]]at HC;obtain⟨R,I⟩:∃R,Nu ⟨ep,nx,gv,rs,ls,W⟩ ⟨1,(k:Int),id,bd,he,hn⟩=R:=⟨_,E⟩;rw[I]at HC;refine wJ eQ (HC) ?_;rintro _ w67 ⟨rfl,A63,c64,A65,c66,CU⟩;refine⟨_,E,?_⟩;refine zN 3 ?_;refine gD CU tK ?_;intro b69 w70 rX;refine sa 0 rX kQ ?_;intro w72 uq;refine zN 4 ?_;have Lc:=uq.drew;refine aK 10 Lc [6,5] ?_;refine aL 6 ?_;refine bg 6 ?_;refine ZM 6 E 6 Lc kQ ?_;intro w81 S82;refine dG ?_;refine bg 7 ?_;refine sn 7 E 5 S82 kQ ?_;intro w83 FR;refine aL 4 ?_;refine zN 2 ?_;refine dW (rs:=[.cell 4 183,.cell 5 54,.tmp 6,.tmp 7]) (vs:=[.agg (dB R.1.ep R.1.nx R.1.gv (.slice A63 R.1.ready.length c64) (.slice A65 R.1.bP.length c66) R.1.ws),.agg #[D R.2.1.code,D R.2.1.fO,D R.2.1.Nc,D R.2.1.body],.bool R.2.2,D 0]) E ⟨⟨_,E,fB 6 FR E underlying183 E kQ⟩,⟨_,E,fB 5 FR E underlying54 E kQ⟩,E,E,trivial⟩ ?_;have GK:=FR.aO [10,9,8,7,6,5,4,1,0];rw[zq (Q:=⟨ep,nx,gv,rs,ls,W⟩) h0 h1,I];exact⟨A63,c64,A65,c66,E,GK⟩
   ·refine vv (v:=.func (.func 122) #[pV h 0] #[]) (kr 0 Ie E E E E underlying3 underlying227 (zeroValue226 _) dQ E) ?_;refine zN 7 ?_;have JQ:St w.heap.size w w60 [.Mg h (dB ep nx gv (.slice J rs.length M) (.slice O ls.length Z) W) 219,.own 222 2 (.slice J rs.length M) rs.length ((rs).flatMap gF.cells),.own 225 4 (.slice O ls.length Z) ls.length ((ls).flatMap Ls.cells),.loc b51 (qw prog 3 (λy=>if y=4 then some (.func (.func 124) #[pV h 0] #[])else(λy=>if y=3 then some (.func (.func 123) #[pV h 0] #[])else(λy=>if y=2 then some (.func (.func 122) #[pV h 0] #[])else(λy=>if y=1 then some (.func (.func 121) #[pV h 0] #[])else(λ_=>none) y) y) y) y) 4),.Mg b10 #[D 0,D 0,D 0,D 0] 54,.Mg b7 (dB 0 0 0 (.slice none 0 0) (.slice none 0 0) jI) 183,.Mg b4 #[D 2,D (k:Int),D id,D bd,D he,D hn] 49,.Mg b1 (dB ep nx gv (.slice A1 rs.length c1) (.slice A2 ls.length c2) W) 183,.rd 2 A1 rs.length ((rs).flatMap gF.cells),.rd 4 A2 ls.length ((ls).flatMap Ls.cells)]:=Ie.re [3,2,1,0,4,5,6,7,8,9] dQ;have HC:=abu (kd:=2) (k:=k) (id:=id) (bd:=bd) (he:=he) (hn:=hn) JQ hk Y Y Y Y;rw[<-show Nu ⟨ep,nx,gv,rs,ls,W⟩ ⟨2,(k:Int),id,bd,he,hn⟩=GA ⟨ep,nx,gv,rs,ls,W⟩from by simp[Nu]]at HC;obtain⟨R,I⟩:∃R,Nu ⟨ep,nx,gv,rs,ls,W⟩ ⟨2,(k:Int),id,bd,he,hn⟩=R:=⟨_,E⟩;rw[I]at HC;refine wJ eQ (HC) ?_;rintro _ w93 ⟨rfl,A89,c90,A91,c92,Ic⟩;refine⟨_,E,?_⟩;refine zN 3 ?_;refine gD Ic tK ?_;intro b95 w96 DJ;refine sa 0 DJ kQ ?_;intro w98 S99;refine zN 4 ?_;have wM:=S99.drew;refine aK 10 wM [6,5] ?_;refine aL 6 ?_;refine bg 6 ?_;refine ZM 6 E 6 wM kQ ?_;intro aAm vL;refine dG ?_;refine bg 7 ?_;refine sn 7 E 5 vL kQ ?_;intro abk qZ;refine aL 4 ?_;refine zN 2 ?_;refine dW (rs:=[.cell 4 183,.cell 5 54,.tmp 6,.tmp 7]) (vs:=[.agg (dB R.1.ep R.1.nx R.1.gv (.slice A89 R.1.ready.length c90) (.slice A91 R.1.bP.length c92) R.1.ws),.agg #[D R.2.1.code,D R.2.1.fO,D R.2.1.Nc,D R.2.1.body],.bool R.2.2,D 0]) E ⟨⟨_,E,fB 6 qZ E underlying183 E kQ⟩,⟨_,E,fB 5 qZ E underlying54 E kQ⟩,E,E,trivial⟩ ?_;have vM:=qZ.aO [10,9,8,7,6,5,4,1,0];rw[zq (Q:=⟨ep,nx,gv,rs,ls,W⟩) h0 h1,I];exact⟨A89,c90,A91,c92,E,vM⟩
   ·refine vv (v:=.func (.func 123) #[pV h 0] #[]) (kr 0 Ie E E E E underlying3 underlying227 (zeroValue226 _) dQ E) ?_;refine zN 7 ?_;have ER:St w.heap.size w w60 [.Mg h (dB ep nx gv (.slice J rs.length M) (.slice O ls.length Z) W) 219,.own 222 2 (.slice J rs.length M) rs.length ((rs).flatMap gF.cells),.own 225 4 (.slice O ls.length Z) ls.length ((ls).flatMap Ls.cells),.loc b51 (qw prog 3 (λy=>if y=4 then some (.func (.func 124) #[pV h 0] #[])else(λy=>if y=3 then some (.func (.func 123) #[pV h 0] #[])else(λy=>if y=2 then some (.func (.func 122) #[pV h 0] #[])else(λy=>if y=1 then some (.func (.func 121) #[pV h 0] #[])else(λ_=>none) y) y) y) y) 4),.Mg b10 #[D 0,D 0,D 0,D 0] 54,.Mg b7 (dB 0 0 0 (.slice none 0 0) (.slice none 0 0) jI) 183,.Mg b4 #[D 3,D (k:Int),D id,D bd,D he,D hn] 49,.Mg b1 (dB ep nx gv (.slice A1 rs.length c1) (.slice A2 ls.length c2) W) 183,.rd 2 A1 rs.length ((rs).flatMap gF.cells),.rd 4 A2 ls.length ((ls).flatMap Ls.cells)]:=Ie.re [3,2,1,0,4,5,6,7,8,9] dQ;have HC:=abp (kd:=3) (k:=k) (id:=id) (bd:=bd) (he:=he) (hn:=hn) ER hk Y Y Y Y (aqN hLs) (aqO hLs);rw[<-show Nu ⟨ep,nx,gv,rs,ls,W⟩ ⟨3,(k:Int),id,bd,he,hn⟩=EL ⟨ep,nx,gv,rs,ls,W⟩ he hn from by simp[Nu]]at HC;obtain⟨R,I⟩:∃R,Nu ⟨ep,nx,gv,rs,ls,W⟩ ⟨3,(k:Int),id,bd,he,hn⟩=R:=⟨_,E⟩;rw[I]at HC;refine wJ eQ (HC) ?_;rintro _ anY ⟨rfl,as0,c116,as1,as2,sM⟩;refine⟨_,E,?_⟩;refine zN 3 ?_;refine gD sM tK ?_;intro aJt anZ zY;refine sa 0 zY kQ ?_;intro as3 Sc;refine zN 4 ?_;have xW:=Sc.drew;refine aK 10 xW [6,5] ?_;refine aL 6 ?_;refine bg 6 ?_;refine ZM 6 E 6 xW kQ ?_;intro abv zZ;refine dG ?_;refine bg 7 ?_;refine sn 7 E 5 zZ kQ ?_;intro asQ GL;refine aL 4 ?_;refine zN 2 ?_;refine dW (rs:=[.cell 4 183,.cell 5 54,.tmp 6,.tmp 7]) (vs:=[.agg (dB R.1.ep R.1.nx R.1.gv (.slice as0 R.1.ready.length c116) (.slice as1 R.1.bP.length as2) R.1.ws),.agg #[D R.2.1.code,D R.2.1.fO,D R.2.1.Nc,D R.2.1.body],.bool R.2.2,D 0]) E ⟨⟨_,E,fB 6 GL E underlying183 E kQ⟩,⟨_,E,fB 5 GL E underlying54 E kQ⟩,E,E,trivial⟩ ?_;have Dg:=GL.aO [10,9,8,7,6,5,4,1,0];rw[zq (Q:=⟨ep,nx,gv,rs,ls,W⟩) h0 h1,I];exact⟨as0,c116,as1,as2,E,Dg⟩
   refine vv (v:=.func (.func 124) #[pV h 0] #[]) (kr 0 Ie E E E E underlying3 underlying227 (zeroValue226 _) dQ E) ?_;refine zN 7 ?_;have Df:St w.heap.size w w60 [.Mg h (dB ep nx gv (.slice J rs.length M) (.slice O ls.length Z) W) 219,.own 222 2 (.slice J rs.length M) rs.length ((rs).flatMap gF.cells),.own 225 4 (.slice O ls.length Z) ls.length ((ls).flatMap Ls.cells),.loc b51 (qw prog 3 (λy=>if y=4 then some (.func (.func 124) #[pV h 0] #[])else(λy=>if y=3 then some (.func (.func 123) #[pV h 0] #[])else(λy=>if y=2 then some (.func (.func 122) #[pV h 0] #[])else(λy=>if y=1 then some (.func (.func 121) #[pV h 0] #[])else(λ_=>none) y) y) y) y) 4),.Mg b10 #[D 0,D 0,D 0,D 0] 54,.Mg b7 (dB 0 0 0 (.slice none 0 0) (.slice none 0 0) jI) 183,.Mg b4 #[D 4,D (k:Int),D id,D bd,D he,D hn] 49,.Mg b1 (dB ep nx gv (.slice A1 rs.length c1) (.slice A2 ls.length c2) W) 183,.rd 2 A1 rs.length ((rs).flatMap gF.cells),.rd 4 A2 ls.length ((ls).flatMap Ls.cells)]:=Ie.re [3,2,1,0,4,5,6,7,8,9] dQ;have HC:=abq (kd:=4) (k:=k) (id:=id) (bd:=bd) (he:=he) (hn:=hn) Df hk Y Y Y Y (akK hRd) hNd;rw[<-show Nu ⟨ep,nx,gv,rs,ls,W⟩ ⟨4,(k:Int),id,bd,he,hn⟩=EM ⟨ep,nx,gv,rs,ls,W⟩from by simp[Nu]]at HC;obtain⟨R,I⟩:∃R,Nu ⟨ep,nx,gv,rs,ls,W⟩ ⟨4,(k:Int),id,bd,he,hn⟩=R:=⟨_,E⟩;rw[I]at HC;refine wJ eQ (HC) ?_;rintro _ aAn ⟨rfl,aic,aie,abw,abx,R9⟩;refine⟨_,E,?_⟩;refine zN 3 ?_;refine gD R9 tK ?_;intro aAo aAp Ak;refine sa 0 Ak kQ ?_;intro as4 Oa;refine zN 4 ?_;have I9:=Oa.drew;refine aK 10 I9 [6,5] ?_;refine aL 6 ?_;refine bg 6 ?_;refine ZM 6 E 6 I9 kQ ?_;intro as5 Ob;refine dG ?_;refine bg 7 ?_;refine sn 7 E 5 Ob kQ ?_;intro aAq Ja;refine aL 4 ?_;refine zN 2 ?_;refine dW (rs:=[.cell 4 183,.cell 5 54,.tmp 6,.tmp 7]) (vs:=[.agg (dB R.1.ep R.1.nx R.1.gv (.slice aic R.1.ready.length aie) (.slice abw R.1.bP.length abx) R.1.ws),.agg #[D R.2.1.code,D R.2.1.fO,D R.2.1.Nc,D R.2.1.body],.bool R.2.2,D 0]) E ⟨⟨_,E,fB 6 Ja E underlying183 E kQ⟩,⟨_,E,fB 5 Ja E underlying54 E kQ⟩,E,E,trivial⟩ ?_;have yR:=Ja.aO [10,9,8,7,6,5,4,1,0];rw[zq (Q:=⟨ep,nx,gv,rs,ls,W⟩) h0 h1,I];exact⟨aic,aie,abw,abx,E,yR⟩
  refine zN 2 ?_;refine CJ (vv (v:=.agg (dB 0 0 0 (.slice none 0 0) (.slice none 0 0) jI)) yz ?_);refine zN 2 ?_;refine saq 1 zR kQ ?_;intro aAr as6;refine sa 0 as6 kQ ?_;intro an0 Mk;refine zN 6 ?_;refine dW (rs:=[.cell 4 183,.cell 5 54,.tmp 6,.tmp 7]) (vs:=[.agg (dB 0 0 0 (.slice none 0 0) (.slice none 0 0) jI),.agg #[D 0,D 0,D 0,D 0],.bool false,D (aZ ⟨kd,pr,id,bd,he,hn⟩)]) E ⟨⟨_,E,fB 1 Mk E underlying183 E kQ⟩,⟨_,E,fB 0 Mk E underlying54 E kQ⟩,E,E,trivial⟩ ?_;have W9:=Mk.aO [5,4,3,2,1,0];rw[QO (Q:=⟨ep,nx,gv,rs,ls,W⟩) h0 h1];exact⟨none,0,none,0,E,Ku W9⟩
 refine zN 2 ?_;refine CJ (vv (v:=.agg (dB 0 0 0 (.slice none 0 0) (.slice none 0 0) jI)) yz ?_);refine zN 2 ?_;refine saq 1 mZ kQ ?_;intro aAs an1;refine sa 0 an1 kQ ?_;intro aAt aby;refine zN 6 ?_;refine dW (rs:=[.cell 4 183,.cell 5 54,.tmp 6,.tmp 7]) (vs:=[.agg (dB 0 0 0 (.slice none 0 0) (.slice none 0 0) jI),.agg #[D 0,D 0,D 0,D 0],.bool false,D (gy ep nx gv rs ls W)]) E ⟨⟨_,E,fB 1 aby E underlying183 E kQ⟩,⟨_,E,fB 0 aby E underlying54 E kQ⟩,E,E,trivial⟩ ?_;have Xa:=aby.aO [5,4,3,2,1,0];rw[ML (Q:=⟨ep,nx,gv,rs,ls,W⟩) h0];exact⟨none,0,none,0,E,Ku Xa⟩
def Jb(e n g:Int)(r l:Value)(W:kN)(a:Value):Array Value:=(D e::D n::D g::r::l::(W.cells++[a])).toArray
section
variable {e n g:Int}{r l a:Value}{W:kN}
def abz:(Jb e n g r l W a).size=42:=rfl
def aeN:∀(j:Nat) (u:Value),(dB e n g r l W).toList[j]? =some u->(Jb e n g r l W a)[0+j]? =some u:=mE (m:=41) E
def akQ{h I g':Int}{J l':Value}{W':kN}:dn (Jb e n g r l W a) 0 (dB h I g' J l' W').toList=Jb h I g' J l' W' a:=by
 apply Array.toList_inj.1;rw[iC _ _ _ (by rw[abz];show 0+41<=42;omega)];rfl
end
def pR(g:Nat)(Q:Qd)(an:List iW)(A1:Option Addr)(c1:Nat)(A2:Option Addr)(c2:Nat)(A3:Option Addr)(c3:Nat)(fs:List J8):List J8:=
 (.Mg g (Jb Q.ep Q.nx Q.gv (.slice A1 Q.ready.length c1) (.slice A2 Q.bP.length c2) Q.ws (.slice A3 an.length c3)) 199)::(.cZ 2 A1 Q.ready.length ((Q.ready).flatMap gF.cells))::(.cZ 4 A2 Q.bP.length ((Q.bP).flatMap Ls.cells))::(.own 54 4 (.slice A3 an.length c3) an.length ((an).flatMap iW.cells))::fs
def akR(B:Nat)(w0:World)(g:Nat)(fs:List J8)(an:List iW)(r:Qd×iW×Bool×Int)(e:Ending)(w':World):Prop:=
 ((r.2.2.2=0/\r.2.2.1=true)->e=.returned (.bool true)/\ ∃A1 c1 A2 c2 A3 c3,St B w0 w' (pR g r.1 (an++[r.2.1]) A1 c1 A2 c2 A3 c3 fs))/\(¬(r.2.2.2=0/\r.2.2.1=true)->e=.returned (.bool false)/\St B w0 w' fs)
def agp(w:World)(r:Qd×List iW×Int)(e:Ending)(w':World):Prop:=
 (r.2.2=0-> ∃g A1 c1 A2 c2 A3 c3,e=.returned (.tuple #[pV g 0,D 0])/\St w.heap.size w w' (pR g r.1 r.2.1 A1 c1 A2 c2 A3 c3 []))/\(r.2.2≠0->e=.returned (.tuple #[.pointer none,D r.2.2])/\Below w.heap.size w w')
def Yj(w:World)(r:Qd×List iW×Int)(e:Ending)(w':World):Prop:= ∃A1 c1 A2 c2,
 e=.returned (.tuple #[.agg (dB r.1.ep r.1.nx r.1.gv (.slice A1 r.1.ready.length c1) (.slice A2 r.1.bP.length c2) r.1.ws),D r.2.2])/\
 St w.heap.size w w' [.cZ 2 A1 r.1.ready.length (r.1.ready.flatMap gF.cells),.cZ 4 A2 r.1.bP.length (r.1.bP.flatMap Ls.cells)]
def UY(w:World)(r:Qd×List iW×Int)(e:Ending)(w':World):Prop:= ∃A c,
 e=.returned (.tuple #[.slice A r.2.1.length c,D r.2.2])/\St w.heap.size w w' [.cZ 4 A r.2.1.length (r.2.1.flatMap iW.cells)]
def abA{B g c1 c2 c3:Nat}{w0 w:World}{fs:List J8}{A1 A2 A3:Option Addr}{Q:Qd}{an:List iW}{x:Ev}(S:St B w0 w (pR g Q an A1 c1 A2 c2 A3 c3 fs))(hq:Q.ready.length+Q.bP.length<=501)(ha:an.length<=2000):
 Calls prog 114 #[pV g 0,.agg #[D x.kind,D x.Mr,D x.id,D x.body,D x.MF,D x.Nc]] w (akR B w0 g fs an (iO Q x)):=by
 unfold pR at S;obtain⟨R,hR⟩:∃R,iO Q x=R:=⟨_,E⟩;refine gP 40 func114 ?_;refine cw [0,1] ?_;refine zN 2 ?_;refine iU S ?_;intro b1 w2 S3;refine zN 3 ?_;refine nD (X:=Nat×Nat×(Option Addr)×Nat×(Option Addr)×Nat) (λM=>[(0,pV g 0),(4,.bool false),(5,pV M.1 0),(6,pV M.2.1 0),(7,.bool R.2.2.1),(8,D R.2.2.2)]) (λM wr=>St B w0 wr ((.Mg M.2.1 #[D R.2.1.code,D R.2.1.fO,D R.2.1.Nc,D R.2.1.body] 54)::(.Mg M.1 (dB R.1.ep R.1.nx R.1.gv (.slice M.2.2.1 R.1.ready.length M.2.2.2.1) (.slice M.2.2.2.2.1 R.1.bP.length M.2.2.2.2.2) R.1.ws) 183)::(.cZ 2 M.2.2.1 R.1.ready.length ((R.1.ready).flatMap gF.cells))::(.cZ 4 M.2.2.2.2.1 R.1.bP.length ((R.1.bP).flatMap Ls.cells))::(.Mg b1 #[D x.kind,D x.Mr,D x.id,D x.body,D x.MF,D x.Nc] 49)::(.Mg g (Jb Q.ep Q.nx Q.gv (.slice A1 Q.ready.length c1) (.slice A2 Q.bP.length c2) Q.ws (.slice A3 an.length c3)) 199)::(.cZ 2 A1 Q.ready.length ((Q.ready).flatMap gF.cells))::(.cZ 4 A2 Q.bP.length ((Q.bP).flatMap Ls.cells))::(.own 54 4 (.slice A3 an.length c3) an.length ((an).flatMap iW.cells))::fs)) ?_ ?_
 ·have S4:=S3.drew;refine aK 17 S4 [] ?_;refine aL 3 ?_;refine ak (v:=.agg (dB Q.ep Q.nx Q.gv (.slice A1 Q.ready.length c1) (.slice A2 Q.bP.length c2) Q.ws)) 3 E S4 (λ_ Sx8=>(aj E E (dP (cs:=(dB Q.ep Q.nx Q.gv (.slice A1 Q.ready.length c1) (.slice A2 Q.bP.length c2) Q.ws).toList) (St.rg 1 Sx8 E (aeN))))) ?_;refine dG ?_;refine SC (n:=11) (r:=5) (s:=11) (t:=12) kQ ?_ ?_ ?_
  ·have HD:=λA1 A2 c1 c2 w h1 J=>xE Q.ep Q.nx Q.gv x.kind x.Mr x.id x.body x.MF x.Nc A1 A2 c1 c2 Q.ready Q.bP Q.ws w h1 J hQ hQ;rw[show iO ⟨Q.ep,Q.nx,Q.gv,Q.ready,Q.bP,Q.ws⟩ ⟨x.kind,x.Mr,x.id,x.body,x.MF,x.Nc⟩=R from hR]at HD;refine kE 5 E eQ (HD A1 A2 c1 c2 _ (St.cZ 2 S4 E) (St.cZ 3 S4 E)) ?_;rintro _ Lf ⟨A10,c11,A12,c13,rfl,T16⟩;refine⟨_,E,?_⟩;have jm:=S4.ext T16 E;clear HD;refine aL 6 ?_;refine iG (n:=5) (r:=11) (s:=12) kQ ?_ ?_
   ·refine kg (i:=11) E E (V:=λb=>pV b 0) (row:=dB 0 0 0 (.slice none 0 0) (.slice none 0 0) jI) (t:=183) jm (wn E) E E (jd E (zeroValue183 _) E) ?_;intro b22 JN kF;refine dG ?_;refine bg 12 ?_;refine lW 12 E kF tK ?_;intro b25 M4 sS;refine dG ?_;refine bg 13 ?_;refine ZM 13 E 1 sS kQ ?_;intro V3 tF;refine dG ?_;refine bg 14 ?_;refine sn 14 E 0 tF kQ ?_;intro VX oW;refine aL 4 ?_;refine dM (b22,b25,A10,c11,A12,c13) ?_ rU;exact oW
   refine lW 12 E jm tK ?_;intro b34 ZI tH;refine dG ?_;refine bg 11 ?_;refine kg (i:=11) E E (V:=λb=>pV b 0) (row:=dB 0 0 0 (.slice none 0 0) (.slice none 0 0) jI) (t:=183) tH (wn E) E E (jd E (zeroValue183 _) E) ?_;intro b37 ZO xV;refine dG ?_;refine bg 13 ?_;refine ZM 13 E 0 xV kQ ?_;intro w40 JL;refine dG ?_;refine bg 14 ?_;refine sn 14 E 1 JL kQ ?_;intro SX rW;refine aL 4 ?_;have xk:=rW.eH [8,8,8,8,8,8,8,7,8];refine dM (b37,b34,A10,c11,A12,c13) ?_ rU;exact xk
  ·refine kg (i:=11) E E (V:=λb=>pV b 0) (row:=dB 0 0 0 (.slice none 0 0) (.slice none 0 0) jI) (t:=183) S4 (wn E) E E (jd E (zeroValue183 _) E) ?_;intro b47 ZP Z;refine dG ?_;refine iG (n:=10) (r:=5) (s:=12) kQ ?_ ?_
   ·have HD:=λA1 A2 c1 c2 w h1 J=>xE Q.ep Q.nx Q.gv x.kind x.Mr x.id x.body x.MF x.Nc A1 A2 c1 c2 Q.ready Q.bP Q.ws w h1 J hQ hQ;rw[show iO ⟨Q.ep,Q.nx,Q.gv,Q.ready,Q.bP,Q.ws⟩ ⟨x.kind,x.Mr,x.id,x.body,x.MF,x.Nc⟩=R from hR]at HD;refine kE 5 E eQ (HD A1 A2 c1 c2 _ (St.cZ 3 Z E) (St.cZ 4 Z E)) ?_;rintro _ w54 ⟨A50,c51,A52,c53,rfl,T56⟩;refine⟨_,E,?_⟩;have vo:=Z.ext T56 E;clear HD;refine aL 6 ?_;refine bg 12 ?_;refine lW 12 E vo tK ?_;intro b62 w63 S64;refine dG ?_;refine bg 13 ?_;refine ZM 13 E 3 S64 kQ ?_;intro w65 Ih;refine dG ?_;refine bg 14 ?_;refine sn 14 E 0 Ih kQ ?_;intro w67 CU;refine aL 4 ?_;have rX:=CU.eH [8,8,8,8,8,7,7,8,8];refine dM (b47,b62,A50,c51,A52,c53) ?_ rU;exact rX
   refine lW 12 E Z tK ?_;intro b72 w73 Lc;refine dG ?_;refine bg 5 ?_;have HD:=λA1 A2 c1 c2 w h1 J=>xE Q.ep Q.nx Q.gv x.kind x.Mr x.id x.body x.MF x.Nc A1 A2 c1 c2 Q.ready Q.bP Q.ws w h1 J hQ hQ;rw[show iO ⟨Q.ep,Q.nx,Q.gv,Q.ready,Q.bP,Q.ws⟩ ⟨x.kind,x.Mr,x.id,x.body,x.MF,x.Nc⟩=R from hR]at HD;refine kE 5 E eQ (HD A1 A2 c1 c2 _ (St.cZ 4 Lc E) (St.cZ 5 Lc E)) ?_;rintro _ w79 ⟨A75,c76,A77,c78,rfl,T81⟩;refine⟨_,E,?_⟩;have Cb:=Lc.ext T81 E;clear HD;refine aL 6 ?_;refine bg 13 ?_;refine ZM 13 E 3 Cb kQ ?_;intro w87 JQ;refine dG ?_;refine bg 14 ?_;refine sn 14 E 2 JQ kQ ?_;intro w89 S90;refine aL 4 ?_;have DF:=S90.eH [8,8,8,8,8,6,6,8,8];refine dM (b47,b72,A75,c76,A77,c78) ?_ rU;exact DF
  refine lW 12 E S4 tK ?_;intro b94 w95 DK;refine dG ?_;refine iG (n:=10) (r:=5) (s:=11) kQ ?_ ?_
  ·have HD:=λA1 A2 c1 c2 w h1 J=>xE Q.ep Q.nx Q.gv x.kind x.Mr x.id x.body x.MF x.Nc A1 A2 c1 c2 Q.ready Q.bP Q.ws w h1 J hQ hQ;rw[show iO ⟨Q.ep,Q.nx,Q.gv,Q.ready,Q.bP,Q.ws⟩ ⟨x.kind,x.Mr,x.id,x.body,x.MF,x.Nc⟩=R from hR]at HD;refine kE 5 E eQ (HD A1 A2 c1 c2 _ (St.cZ 3 DK E) (St.cZ 4 DK E)) ?_;rintro _ atc ⟨A97,c98,A99,aAu,rfl,aAv⟩;refine⟨_,E,?_⟩;have tO:=DK.ext aAv E;clear HD;refine aL 6 ?_;refine bg 11 ?_;refine kg (i:=11) E E (V:=λb=>pV b 0) (row:=dB 0 0 0 (.slice none 0 0) (.slice none 0 0) jI) (t:=183) tO (wn E) E E (jd E (zeroValue183 _) E) ?_;intro aAw aAx abD;refine dG ?_;refine bg 13 ?_;refine ZM 13 E 0 abD kQ ?_;intro abE vM;refine dG ?_;refine bg 14 ?_;refine sn 14 E 3 vM kQ ?_;intro aif qx;refine aL 4 ?_;have wO:=qx.eH [8,8,8,8,8,7,7,7,8];refine dM (aAw,b94,A97,c98,A99,aAu) ?_ rU;exact wO
  refine kg (i:=11) E E (V:=λb=>pV b 0) (row:=dB 0 0 0 (.slice none 0 0) (.slice none 0 0) jI) (t:=183) DK (wn E) E E (jd E (zeroValue183 _) E) ?_;intro aAy atd O;refine dG ?_;refine bg 5 ?_;have HD:=λA1 A2 c1 c2 w h1 J=>xE Q.ep Q.nx Q.gv x.kind x.Mr x.id x.body x.MF x.Nc A1 A2 c1 c2 Q.ready Q.bP Q.ws w h1 J hQ hQ;rw[show iO ⟨Q.ep,Q.nx,Q.gv,Q.ready,Q.bP,Q.ws⟩ ⟨x.kind,x.Mr,x.id,x.body,x.MF,x.Nc⟩=R from hR]at HD;refine kE 5 E eQ (HD A1 A2 c1 c2 _ (St.cZ 4 O E) (St.cZ 5 O E)) ?_;rintro _ an2 ⟨aAz,aAA,an3,an4,rfl,aAB⟩;refine⟨_,E,?_⟩;have Sd:=O.ext aAB E;clear HD;refine aL 6 ?_;refine bg 13 ?_;refine ZM 13 E 2 Sd kQ ?_;intro an5 GN;refine dG ?_;refine bg 14 ?_;refine sn 14 E 3 GN kQ ?_;intro abF ES;refine aL 4 ?_;have Df:=ES.eH [8,8,8,8,8,6,6,7,8];refine dM (aAy,b94,aAz,aAA,an3,an4) ?_ rU;exact Df
 rintro⟨aAC,ate,abw,abx,Sg,c146⟩ atf I
 try dsimp only at I
 refine bI (l':=[(0,pV g 0),(4,.bool false),(5,pV aAC 0),(6,pV ate 0),(7,.bool R.2.2.1),(8,D R.2.2.2)]) rU (aQ (aQ (aC (vm ?_))));by_cases h1:R.2.2.2=0
 ·refine zN 3 ?_
  cases J:R.2.2.1
  ·refine zN 13 ?_;rw[show iO Q x=R from hR];have Ak:=I.aO [8,7,6,5,4,3,2,1,0];exact⟨λh=>absurd h (λh=>by rw[J]at h;exact absurd h.2 iQ),λ_=>⟨E,Ak⟩⟩
  refine zN 13 ?_;refine jH 5 I kQ ?_ (h1:=by exact Kn E E) (hs:=by exact akQ);intro as4 Oa;refine zN 3 ?_;have I9:=Oa.drew;refine fM 11 8 I9 [8] ?_;iterate 6 refine gW ?_
  refine fE (m:=4) (r:=6) kQ ?_;refine mW (i:=6) E E (V:=λb=>.slice (aD b 0) 1 1) (row:= #[D R.2.1.code,D R.2.1.fO,D R.2.1.Nc,D R.2.1.body]) (t:=54) I9 (wn E) E E (aV (vs:=[(0,.agg #[D R.2.1.code,D R.2.1.fO,D R.2.1.Nc,D R.2.1.body])]) E xR kQ) ?_;intro aJu aAD abG;refine gW ?_;refine fE (m:=3) (r:=7) kQ ?_;refine lG (i:=7) E E (news:=[D R.2.1.code,D R.2.1.fO,D R.2.1.Nc,D R.2.1.body]) (xs':=(an++[R.2.1]).flatMap iW.cells) 9 abG (wn E) E E E E E E (St.mD (xs:=[D R.2.1.code,D R.2.1.fO,D R.2.1.Nc,D R.2.1.body]) 0 abG E E E) underlying160 ap6 E dQ (bY E) lQ Y (jB (enc:=iW.cells) E E) ?_;intro atg ath ati aGc aGd yR;refine gW ?_;refine fC kQ E E E ?_;refine zN 2 ?_;refine jH (row':=Jb R.1.ep R.1.nx R.1.gv (.slice abw R.1.ready.length abx) (.slice Sg R.1.bP.length c146) R.1.ws (.slice atg (an.length+1) ath)) 6 yR kQ ?_;intro an0 Mk;refine zQ ?_;refine jg ?_;refine zN 8 ?_;rw[show iO Q x=R from hR];have W9:=Mk.aO [8,7,5,2,1,0];have an6:=W9.eH [3,2,2,3];have hal:(an++[R.2.1]).length=an.length+1:=by simp
  refine⟨λ_=>⟨E,abw,abx,Sg,c146,atg,ath,?_⟩,λh=>absurd ⟨h1,J⟩ h⟩;unfold pR;rw[hal];exact an6
 refine zN 16 ?_;rw[show iO Q x=R from hR];have an1:=I.aO [8,7,6,5,4,3,2,1,0];exact⟨λh=>absurd h (λh=>h1 h.1),λ_=>⟨E,an1⟩⟩
def Lg{l:List Ev}(h:¬(av l).2.2=0):(av l).1=dV/\(av l).2.1=[]:=by
 by_cases I:2000<l.length
 ·rw[NY I];exact⟨E,E⟩
 cases J:gZ dV [] l with
 |none=>rw[Kr I J];exact⟨E,E⟩
 |some r=>rw[EO I J]at h;exact absurd E h
def Lh(A:Option Addr)(c:Nat)(l:List Ev)(w:World)(h:Rd w w.heap.size 6 A l.length (aY l))(hl:l.length<=1152921504606846976):
 Calls prog 100 #[.slice A l.length c] w (agp w (av l)):=by
 have S:=(St.start w).bV h;refine gP 24 func100 ?_;refine cw [0] ?_;refine zN 11 ?_;by_cases h1:2000< (l.length:Int)
 ·refine zN 13 ?_;rw[NY Y];exact⟨λh=>absurd h dQ,λ_=>⟨E,S.Nr⟩⟩
 refine zN 2 ?_;refine afX (vv (v:=.agg (Jb 0 0 0 (.slice none 0 0) (.slice none 0 0) jI (.slice none 0 0))) yz ?_);refine iU S ?_;intro b2 w3 S4;refine zN 12 ?_;have S5:=aA (s:=2) (aA (s:=4) (S4.nil 54 4));have S6:St w.heap.size w w3 [_,_,_,_,_]:=S5.re [3,0,1,2,4] dQ;refine fJ (X:=Nat×Qd×(List iW)×(Option Addr)×Nat×(Option Addr)×Nat×(Option Addr)×Nat) (λI=>[(2,.pointer none),(3,D 0),(4,pV b2 0),(12,.slice A l.length c),(13,D (l.length:Int)),(14,D (I.1:Int))]) (λI wr=>(I.1<=l.length)/\(gZ dV [] l=gZ I.2.1 I.2.2.1 (l.drop I.1))/\(I.2.1.ready.length+I.2.1.bP.length<=501)/\(I.2.2.1.length=I.1)/\St w.heap.size w wr [.Mg b2 (Jb I.2.1.ep I.2.1.nx I.2.1.gv (.slice I.2.2.2.1 I.2.1.ready.length I.2.2.2.2.1) (.slice I.2.2.2.2.2.1 I.2.1.bP.length I.2.2.2.2.2.2.1) I.2.1.ws (.slice I.2.2.2.2.2.2.2.1 I.2.2.1.length I.2.2.2.2.2.2.2.2)) 199,.cZ 2 I.2.2.2.1 I.2.1.ready.length ((I.2.1.ready).flatMap gF.cells),.cZ 4 I.2.2.2.2.2.1 I.2.1.bP.length ((I.2.1.bP).flatMap Ls.cells),.own 54 4 (.slice I.2.2.2.2.2.2.2.1 I.2.2.1.length I.2.2.2.2.2.2.2.2) I.2.2.1.length ((I.2.2.1).flatMap iW.cells),.rd 6 A l.length ((l).flatMap Ev.cells)]) (λI=>l.length-I.1) (0,dV,[],none,0,none,0,none,0) ?_ ?_ ?_
 ·exact⟨zero_le _,E,(by simp[dV]),E,S6⟩
 ·exact rU
 rintro⟨k,Q,an,A1,c1,A2,c2,A3,c3⟩ w7 ⟨hi9,M,Ml,atj,S8⟩
 try dsimp only at hi9 M Ml atj S8
 refine bI (l':=[(2,.pointer none),(3,D 0),(4,pV b2 0),(12,.slice A l.length c),(13,D (l.length:Int)),(14,D (k:Int))]) rU (aQ (aC ?_));by_cases h13:(k:Int)< (l.length:Int)
 ·refine zN 11 ?_;obtain⟨b14,o15,rfl⟩:=Rd.addr (St.rd 4 S8 E) Y;obtain⟨J,Z⟩:=JH k (St.rd 4 S8 E) Y;refine vv (ko k) ?_;refine vv (aj E E (dP (cs:=Ev.cells J) (Rd.wZ (St.rd 4 S8 E) (λ_ _ h=>bE (enc:=Ev.cells) (sz:=6) (λ_=>E) Z h)))) ?_;refine gD S8 aa3 ?_;intro b18 GH qj;refine sa 0 qj kQ ?_;intro FN jY;refine zN 6 ?_;have tJ:St w.heap.size w FN [_,_,_,_,_,_]:=jY.re [1,2,3,4,0,5] dQ;obtain⟨R,hR⟩:∃R,iO Q J=R:=⟨_,E⟩;have HA:=abA (fs:=[.Mg b18 #[D J.kind,D J.Mr,D J.id,D J.body,D J.MF,D J.Nc] 49,.rd 6 (aD b14 o15) l.length ((l).flatMap Ev.cells)]) (x:=J) (show St _ _ _ (pR _ _ _ _ _ _ _ _ _ _)from tJ) Ml Y;rw[hR]at HA;by_cases O:R.2.2.2=0/\R.2.2.1=true
  ·refine dJ eQ (HA.mono λ_ _ h=>h.1 O) ?_;rintro _ Oc ⟨rfl,A26,c27,A28,c29,A30,c31,lH⟩;refine⟨_,E,?_⟩;clear HA;refine zN 8 ?_;refine vv (v:=D ((k+1:Nat):Int)) iI ?_;refine zN 2 ?_;have uw:St w.heap.size w Oc [_,_,_,_,_]:=lH.re [0,1,2,3,5] dQ;refine bC (k+1,R.1,an++[R.2.1],A26,c27,A28,c29,A30,c31) ?_ rU (by first|omega|(dsimp only;omega));exact⟨uQ,(by dsimp only;rw[M,UQ Z (by rw[hR];exact O.1) (by rw[hR];exact O.2),hR]),by dsimp only;exact hR▸aeH (by rw[hR];exact O.1),(by dsimp only;rw[length_append,atj];rfl),uw⟩
  refine dJ eQ (HA.mono λ_ _ h=>h.2 O) ?_;rintro _ w33 ⟨rfl,qY⟩;refine⟨_,E,?_⟩;clear HA;refine zN 17 ?_;rw[Kr Y (by rw[M];exact UR Z (by rw[hR];exact O))];exact⟨λh=>absurd h dQ,λ_=>⟨E,qY.Nr⟩⟩
 refine zN 19 ?_;have JL:St w.heap.size w w7 [_,_,_,_]:=S8.re [0,1,2,3] dQ;rw[EO (r:=(Q,an)) Y (by rw[M];exact Yg Y)];exact⟨λ_=>⟨b2,A1,c1,A2,c2,A3,c3,E,JL⟩,λh=>absurd E h⟩
def FT(A:Option Addr)(c:Nat)(l:List Ev)(w:World)(h:Rd w w.heap.size 6 A l.length (aY l))(hl:l.length<=1152921504606846976):
 Calls prog 83 #[.slice A l.length c] w (Yj w (av l)):=by
 have S:=(St.start w).bV h;refine gP 19 func83 ?_;refine cw [0] ?_;refine zN 2 ?_;refine mV (V:=λb=>pV b 0) (row:=dB 0 0 0 (.slice none 0 0) (.slice none 0 0) jI) (t:=183) S (wn E) E E (jd E (zeroValue183 _) E) ?_;intro b1 w2 M;refine zN 6 ?_;have HT:=λw h=>Lh A c l w h hl;by_cases ht:(av l).2.2=0
 ·refine dJ eQ ((HT _ (St.rd 1 M E)).mono λ_ _ h=>h.1 ht) ?_;rintro _ w4 ⟨b7,A8,c9,I,J,O,Z,rfl,T6⟩;refine⟨_,E,?_⟩;unfold pR at T6;have S5:=M.ext T6 E;clear HT T6 M;change St _ _ _ [.Mg b7 (Jb ((av l).1.ep) ((av l).1.nx) ((av l).1.gv) (.slice A8 ((av l).1.ready.length) c9) (.slice I ((av l).1.bP.length) J) ((av l).1.ws) (.slice O ((av l).2.1.length) Z)) 199,.cZ 2 A8 ((av l).1.ready.length) (((av l).1.ready).flatMap gF.cells),.cZ 4 I ((av l).1.bP.length) (((av l).1.bP).flatMap Ls.cells),.own 54 4 (.slice O ((av l).2.1.length) Z) ((av l).2.1.length) (((av l).2.1).flatMap iW.cells),.Mg b1 (dB 0 0 0 (.slice none 0 0) (.slice none 0 0) jI) 183,.rd 6 A l.length ((l).flatMap Ev.cells)]at S5;refine zN 22 ?_;refine vv (aj E E (dP (cs:=(dB ((av l).1.ep) ((av l).1.nx) ((av l).1.gv) (.slice A8 ((av l).1.ready.length) c9) (.slice I ((av l).1.bP.length) J) ((av l).1.ws)).toList) (St.rg 0 S5 E (aeN)))) ?_;refine saq 4 S5 kQ ?_;intro Lf jm;refine zN 5 ?_;have o8:St w.heap.size w Lf [_,_]:=jm.re [1,2] dQ;refine⟨A8,c9,I,J,?_,o8⟩;rw[ht];rfl
 refine dJ eQ ((HT _ (St.rd 1 M E)).mono λ_ _ h=>h.2 ht) ?_;rintro _ MZ ⟨rfl,T19⟩;refine⟨_,E,?_⟩;have qO:=M.on T19;clear HT T19 M;change St _ _ _ [.Mg b1 (dB 0 0 0 (.slice none 0 0) (.slice none 0 0) jI) 183,.rd 6 A l.length ((l).flatMap Ev.cells)]at qO;refine zN 13 ?_;refine CJ (vv (v:=.agg (dB 0 0 0 (.slice none 0 0) (.slice none 0 0) jI)) yz ?_);refine zQ ?_;refine saq 0 qO kQ ?_;intro ZN vC;refine zN 6 ?_;have jY:=vC.aO [1,0];have hz:=Lg ht;refine⟨none,0,none,0,?_,?_⟩
 · rw[hz.1];rfl
 · rw[hz.1];exact Ku jY
def abB(A:Option Addr)(c:Nat)(l:List Ev)(w:World)(h:Rd w w.heap.size 6 A l.length (aY l))(hl:l.length<=1152921504606846976):
 Calls prog 72 #[.slice A l.length c] w (UY w (av l)):=by
 have S:=(St.start w).bV h;refine gP 18 func72 ?_;refine cw [0] ?_;refine zN 9 ?_;have HT:=λw h=>Lh A c l w h hl;by_cases J:(av l).2.2=0
 ·refine dJ eQ ((HT _ (St.rd 0 S E)).mono λ_ _ h=>h.1 J) ?_;rintro _ w1 ⟨b4,A5,c6,A7,c8,A9,M,rfl,O⟩;refine⟨_,E,?_⟩;unfold pR at O;have S2:=S.ext O E;clear HT O S;refine zN 29 ?_;have Z:St w.heap.size w w1 [_]:=S2.re [3] dQ;have pF:=Z.bJ 0 E;refine⟨A9,M,?_,pF⟩;rw[J];rfl
 refine dJ eQ ((HT _ (St.rd 0 S E)).mono λ_ _ h=>h.2 J) ?_;rintro _ En ⟨rfl,I⟩;refine⟨_,E,?_⟩;have mZ:=S.on I;clear HT I S;refine zN 25 ?_;have o8:=mZ.aO [0];have hz:=Lg J;refine⟨none,0,?_,?_⟩
 · rw[hz.2];rfl
 · rw[hz.2];exact aA o8
def kW(w:World)(r:aU×Int)(e:Ending)(w':World):Prop:= ∃A c,∃_:r.1.Gs.length<=c,e=.returned (.tuple #[.agg #[D r.1.Gq,D r.1.ep,D r.1.fr,D r.1.tg,D r.1.rd,.slice A r.1.Gs.length c],D r.2])/\St w.heap.size w w' [.cZ 6 A r.1.Gs.length (aY r.1.Gs)]
def abI(w:World)(r:aU×iW×Bool×Int)(e:Ending)(w':World):Prop:= ∃A c,∃_:r.1.Gs.length<=c,e=.returned (.tuple #[.agg #[D r.1.Gq,D r.1.ep,D r.1.fr,D r.1.tg,D r.1.rd,.slice A r.1.Gs.length c],r.2.1.val,.bool r.2.2.1,D r.2.2.2])/\St w.heap.size w w' [.cZ 6 A r.1.Gs.length (aY r.1.Gs)]
def Ta(w:World)(r:List Ev×Bool×Int)(e:Ending)(w':World):Prop:= ∃A c,∃_:r.1.length<=c,e=.returned (.tuple #[.slice A r.1.length c,.bool r.2.1,D r.2.2])/\St w.heap.size w w' [.cZ 6 A r.1.length (aY r.1)]
def Tc(w:World)(ro ep fr tg rd:Int)(l:List Ev)(e:Ending)(w':World):Prop:= ∃A c,e=.returned (.agg #[D ro,D ep,D fr,D tg,D rd,.slice A l.length c])/\St w.heap.size w w' [.own 49 6 (.slice A l.length c) l.length (aY l)]
def kX(n:Int)(w:World):
 Calls tP 73 #[D n] w (FM w (decide (0<=n/\n<5))):=by
 have S:=St.start w;refine gP 9 func73 ?_;refine cw [0] ?_;refine zN 8 ?_;by_cases h1:0<=n
 ·refine zN 3 ?_;by_cases h:n<5
  ·refine zN 7 ?_;exact⟨reT Y,S.Nr⟩
  refine zN 7 ?_;exact⟨zK Y,S.Nr⟩
 refine zN 10 ?_;exact⟨zK Y,S.Nr⟩
def UZ(ro ep fr tg rd:Int)(A:Option Addr)(c:Nat)(l:List Ev)(w:World)(h:Rd w w.heap.size 6 A l.length (aY l))(hl:l.length<=1152921504606846976):
 Calls tP 82 #[.agg #[D ro,D ep,D fr,D tg,D rd,.slice A l.length c]] w (FM w (decide (bq ⟨ro,ep,fr,tg,rd,l⟩))):=by
 have S:=(St.start w).bV h;refine gP 110 func82 ?_;refine cw [0] ?_;refine zN 2 ?_;refine iU S ?_;intro b1 w2 I;refine zN 8 ?_;by_cases h4:ro=0
 ·refine zN 8 ?_;by_cases h5:0<=ep
  ·refine zN 4 ?_;by_cases h6:ep<=1048576
   ·refine zN 5 ?_;by_cases h7:fr=0
    ·refine zN 5 ?_;by_cases h8:tg=0
     ·refine zN 5 ?_;by_cases h9:rd=0
      ·refine zN 6 ?_;by_cases h10:(l.length:Int)=0
       ·refine zN 8 ?_;exact⟨reT (by unfold bq;dsimp only;omega),I.Nr⟩
       refine zN 8 ?_;exact⟨zK (by unfold bq;dsimp only;omega),I.Nr⟩
      refine zN 14 ?_;exact⟨zK (by unfold bq;dsimp only;omega),I.Nr⟩
     refine zN 19 ?_;exact⟨zK (by unfold bq;dsimp only;omega),I.Nr⟩
    refine zN 24 ?_;exact⟨zK (by unfold bq;dsimp only;omega),I.Nr⟩
   refine zN 29 ?_;exact⟨zK (by unfold bq;dsimp only;omega),I.Nr⟩
  refine zN 33 ?_;exact⟨zK (by unfold bq;dsimp only;omega),I.Nr⟩
 refine zN 11 ?_;by_cases h11:ep<1
 ·refine zN 17 ?_;exact⟨zK (by unfold bq;dsimp only;omega),I.Nr⟩
 refine zN 4 ?_;by_cases h12:1048576<ep
 ·refine zN 13 ?_;exact⟨zK (by unfold bq;dsimp only;omega),I.Nr⟩
 refine zN 17 ?_;by_cases h13:ro=1
 ·refine zN 9 ?_;by_cases h14:fr=0
  ·refine zN 4 ?_;by_cases h15:tg=0
   ·refine zN 5 ?_;by_cases h16:rd=0
    ·refine zN 9 ?_;exact⟨reT (by unfold bq;dsimp only;omega),I.Nr⟩
    refine zN 9 ?_;exact⟨zK (by unfold bq;dsimp only;omega),I.Nr⟩
   refine zN 14 ?_;exact⟨zK (by unfold bq;dsimp only;omega),I.Nr⟩
  refine zN 18 ?_;exact⟨zK (by unfold bq;dsimp only;omega),I.Nr⟩
 refine zN 7 ?_;by_cases h17:ro=2
 ·refine zN 9 ?_;by_cases h18:fr=0
  ·refine zN 4 ?_;by_cases J:0<=tg/\tg<5
   ·have abJ:=λ(w:World)=>kX tg w;rw[decide_eq_true J]at abJ;refine yO eQ (abJ _) ?_;rintro _ FN ⟨rfl,M⟩;refine⟨_,E,?_⟩;have jY:=I.on M;clear M I;refine zN 4 ?_;by_cases QW:0<=rd
    ·refine zN 5 ?_;by_cases uN:rd<=4
     ·refine zN 9 ?_;exact⟨reT (by unfold bq;dsimp only;omega),jY.Nr⟩
     refine zN 9 ?_;exact⟨zK (by unfold bq;dsimp only;omega),jY.Nr⟩
    refine zN 14 ?_;exact⟨zK (by unfold bq;dsimp only;omega),jY.Nr⟩
   have atm:=λ(w:World)=>kX tg w;rw[decide_eq_false J]at atm;refine yO eQ (atm _) ?_;rintro _ NZ ⟨rfl,O⟩;refine⟨_,E,?_⟩;have tC:=I.on O;clear O I;refine zN 18 ?_;exact⟨zK (by unfold bq;dsimp only;omega),tC.Nr⟩
  refine zN 23 ?_;exact⟨zK (by unfold bq;dsimp only;omega),I.Nr⟩
 refine zN 7 ?_;by_cases h30:ro=3
 ·refine zN 9 ?_;by_cases h31:fr=0
  ·refine zN 4 ?_;by_cases Z:0<=tg/\tg<5
   ·have ato:=λ(w:World)=>kX tg w;rw[decide_eq_true Z]at ato;refine yO eQ (ato _) ?_;rintro _ ZQ ⟨rfl,atp⟩;refine⟨_,E,?_⟩;have Cc:=I.on atp;clear atp I;refine zN 4 ?_;by_cases h37:rd=0
    ·refine zN 9 ?_;exact⟨reT (by unfold bq;dsimp only;omega),Cc.Nr⟩
    refine zN 9 ?_;exact⟨zK (by unfold bq;dsimp only;omega),Cc.Nr⟩
   have atq:=λ(w:World)=>kX tg w;rw[decide_eq_false Z]at atq;refine yO eQ (atq _) ?_;rintro _ w39 ⟨rfl,atr⟩;refine⟨_,E,?_⟩;have vS:=I.on atr;clear atr I;refine zN 13 ?_;exact⟨zK (by unfold bq;dsimp only;omega),vS.Nr⟩
  refine zN 18 ?_;exact⟨zK (by unfold bq;dsimp only;omega),I.Nr⟩
 refine zN 7 ?_;by_cases h42:ro=4
 ·refine zN 9 ?_;by_cases att:0<=fr/\fr<5
  ·have atu:=λ(w:World)=>kX fr w;rw[decide_eq_true att]at atu;refine dJ eQ (atu _) ?_;rintro _ w45 ⟨rfl,WY⟩;refine⟨_,E,?_⟩;have xk:=I.on WY;clear WY I;refine zN 3 ?_;by_cases h48:tg=0
   ·refine zN 5 ?_;by_cases h49:rd=0
    ·refine zN 9 ?_;exact⟨reT (by unfold bq;dsimp only;omega),xk.Nr⟩
    refine zN 9 ?_;exact⟨zK (by unfold bq;dsimp only;omega),xk.Nr⟩
   refine zN 14 ?_;exact⟨zK (by unfold bq;dsimp only;omega),xk.Nr⟩
  have atv:=λ(w:World)=>kX fr w;rw[decide_eq_false att]at atv;refine dJ eQ (atv _) ?_;rintro _ w51 ⟨rfl,atw⟩;refine⟨_,E,?_⟩;have pG:=I.on atw;clear atw I;refine zN 17 ?_;exact⟨zK (by unfold bq;dsimp only;omega),pG.Nr⟩
 refine zN 15 ?_;exact⟨zK (by unfold bq;dsimp only;omega),I.Nr⟩
def eB(ro ep fr tg rd:Int)(A:Option Addr)(c:Nat)(l:List Ev)(w:World)(h:Rd w w.heap.size 6 A l.length (aY l))(hl:l.length<=1152921504606846976):
 Calls tP 62 #[.agg #[D ro,D ep,D fr,D tg,D rd,.slice A l.length c]] w (WX w (au ⟨ro,ep,fr,tg,rd,l⟩)):=by
 have S:=(St.start w).bV h;refine gP 16 func62 ?_;refine cw [0] ?_;refine zN 2 ?_;refine iU S ?_;intro b1 w2 J;refine zN 7 ?_;have HC:=λ(w:World) (h:Rd w w.heap.size 6 A l.length (aY l))=>UZ ro ep fr tg rd A c l w h hl;by_cases hs:bq ⟨ro,ep,fr,tg,rd,l⟩
 ·rw[decide_eq_true hs]at HC;refine dJ eQ (HC _ (St.rd 1 J E)) ?_;rintro _ w4 ⟨rfl,M⟩;refine⟨_,E,?_⟩;have S5:=J.on M;clear M J;refine zN 11 ?_;refine dJ eQ (FT A c l _ (St.rd 1 S5 E) Y) ?_;rintro _ Ib ⟨A7,c8,A9,c10,rfl,Z⟩;refine⟨_,E,?_⟩;have pF:=S5.ext Z E;refine zN 3 ?_;refine mV (V:=λb=>pV b 0) (row:=dB 0 0 0 (.slice none 0 0) (.slice none 0 0) jI) (t:=183) pF (wn E) E E (jd E (zeroValue183 _) E) ?_;intro b14 JR o8;refine saq 0 o8 kQ ?_;intro MZ O;refine zN 6 ?_;by_cases h19:(av l).2.2=0
  ·refine zN 13 ?_;exact⟨iq (by first|exact(lS ‹_› ‹_›).symm|exact(Kt ‹_›).symm|exact(P9 (b:=⟨ro,ep,fr,tg,rd,l⟩) ‹_›).symm),O.Nr⟩
  refine zN 12 ?_;exact⟨iq (by first|exact(lS ‹_› ‹_›).symm|exact(Kt ‹_›).symm|exact(P9 (b:=⟨ro,ep,fr,tg,rd,l⟩) ‹_›).symm),O.Nr⟩
 rw[decide_eq_false hs]at HC;refine dJ eQ (HC _ (St.rd 1 J E)) ?_;rintro _ ZN ⟨rfl,I⟩;refine⟨_,E,?_⟩;have vC:=J.on I;clear I J;refine zN 12 ?_;exact⟨iq (by first|exact(lS ‹_› ‹_›).symm|exact(Kt ‹_›).symm|exact(P9 (b:=⟨ro,ep,fr,tg,rd,l⟩) ‹_›).symm),vC.Nr⟩
def aqW{l k:List Ev}:l.flatMap Ev.cells++k.flatMap Ev.cells=(l++k).flatMap Ev.cells:=by simp
def mh(A:Option Addr)(n c:Nat)(l:List Value)(w:World)(h:Rd w w.heap.size 6 A n l)(I:∀u∈l,u.oneCell'=true)(Z:n*48<=reachBytes):
 Calls tP 99 #[.slice A n c] w (jA w 49 6 n l):=by
 unfold reachBytes at Z;have S:=(St.start w).bV h;refine gP 8 func99 ?_;refine cw [0] ?_;refine zN 9 ?_
 cases A with
 |none=>
  obtain⟨rfl,rfl⟩:=I5 h;refine vv (v:=.bool true) (bM E E E (vP underlying40)) ?_;refine zN 11 ?_;exact jA.of (Below.refl _ _) (jk _ _ _ _)
 |some a=>
  refine vv (v:=.bool false) (bM E E E (vP underlying40)) ?_;refine zN 7 ?_;refine qX (V:=λb=>.slice (aD b 0) 0 0) (row:= #[]) (t:=49) (n:=0) (s:=6) (xs:=[]) S (wn E) E E (aV (vs:=[]) E trivial kQ) iQ (zero_le _) E ?_;intro b1 w2 M;refine zQ ?_;refine dU (news:=l) (xs':=l) 0 M (wn E) E E E E E E (St.rd 1 M E) underlying40 qJ E dQ I lQ Y E ?_;intro A4 c5 w6 hc8 zu S7;refine zN 5 ?_;have J:=S7.aO [1];have O:=J.own 0 E;simp only[Nat.zero_add]at O⊢;exact jA.of J.Nr O
def rM(ro ep fr tg rd:Int)(A:Option Addr)(c:Nat)(l:List Ev)(A':Option Addr)(c':Nat)(k:List Ev)(w:World)(h:Rd w w.heap.size 6 A l.length (aY l))(h':Rd w w.heap.size 6 A' k.length (aY k))(hb:(l.length+k.length)*48<=reachBytes):
 Calls tP 71 #[.agg #[D ro,D ep,D fr,D tg,D rd,.slice A l.length c],.slice A' k.length c'] w (Tc w ro ep fr tg rd (l++k)):=by
 have S:=((St.start w).bV h').bV h;clear h h';unfold reachBytes at hb;refine gP 12 func71 ?_;refine cw [0,1] ?_;refine zN 2 ?_;refine iU S ?_;intro b1 w2 S3;refine gD S3 fZ ?_;intro b4 w5 S6;refine zN 6 ?_;refine dJ eQ (mh A l.length c _ _ (St.rd 2 S6 E) (fP l) hQ) ?_;rintro _ Ib ⟨A7,c8,rfl,O,I⟩;refine⟨_,E,?_⟩;have J:=S6.uG O I;refine zQ ?_;refine dU (news:=(k).flatMap Ev.cells) (xs':=(l++k).flatMap Ev.cells) 0 J (wn E) E E E E E E (St.rd 4 J E) underlying40 qJ E dQ (fP _) lQ Y (aqW) ?_;intro Z c14 JR hc17 hm18 o8;refine zQ ?_;refine H7 2 o8 kQ ?_;intro GH qj;refine zN 5 ?_;refine sa 1 qj kQ ?_;intro FN jY;refine zN 4 ?_;have M:=jY.aO [4,3,2,1];have hl:(l++k).length=l.length+k.length:=length_append;rw[<-hl]at M;exact⟨Z,c14,by rw[hl];rfl,M⟩
def jo(ro ep fr tg rd:Int)(A:Option Addr)(c:Nat)(l:List Ev)(w:World)(h:Rd w w.heap.size 6 A l.length (aY l))(I:l.length*48<=reachBytes):
 Calls tP 71 #[.agg #[D ro,D ep,D fr,D tg,D rd,.slice A l.length c],.slice none 0 0] w (Tc w ro ep fr tg rd l):=by
 have:=rM ro ep fr tg rd A c l none 0 [] w h Rd.Q8 (by simpa using I);rw[append_nil]at this;exact this
def Li(ro ep fr tg rd:Int)(A:Option Addr)(c:Nat)(l:List Ev)(e:Int)(w:World)(h:Rd w w.heap.size 6 A l.length (aY l))(hb:l.length*48<=reachBytes):
 Calls prog 43 #[.agg #[D ro,D ep,D fr,D tg,D rd,.slice A l.length c],D e] w (kW w (iX ⟨ro,ep,fr,tg,rd,l⟩ e)):=by
 have S:=(St.start w).bV h;have O:=hb;unfold reachBytes at O;refine gP 35 func43 ?_;refine cw [0,1] ?_;refine zN 2 ?_;refine iU S ?_;intro b1 w2 S3;refine gD S3 fZ ?_;intro b4 w5 S6;refine zN 7 ?_;refine Rq eQ S6 (eB ro ep fr tg rd A c l _ (St.rd 2 S6 E) Y) ?_;intro w7 I;refine zN 7 ?_;by_cases J:au ⟨ro,ep,fr,tg,rd,l⟩=0
 ·have M:=(eT J).1;unfold bq at M;have Z:=gT (eT J).2;dsimp only at M Z;refine zN 8 ?_;by_cases h11:e<1
  ·refine zN 11 ?_;refine vv jv ?_;refine sa 0 I kQ ?_;intro w12 Ld;refine zN 7 ?_;have mZ:=Ld.aO [2,1,0];rw[show iX ⟨ro,ep,fr,tg,rd,l⟩ e=(⟨0,0,0,0,0,[]⟩,2)from by unfold iX;(try dsimp only);exact kZ];exact⟨none,0,mF,E,aA mZ⟩
  refine zN 3 ?_;by_cases h15:1048576<e
  ·refine zN 8 ?_;refine vv jv ?_;refine sa 0 I kQ ?_;intro w16 zR;refine zN 7 ?_;have qO:=zR.aO [2,1,0];rw[show iX ⟨ro,ep,fr,tg,rd,l⟩ e=(⟨0,0,0,0,0,[]⟩,2)from by unfold iX;(try dsimp only);exact kZ];exact⟨none,0,mF,E,aA qO⟩
  refine zN 10 ?_;by_cases h19:ro=0
  ·refine zN 10 ?_;by_cases h20:e<=ep
   ·refine zN 7 ?_;refine vv jv ?_;refine sa 0 I kQ ?_;intro FN jY;refine zN 7 ?_;have tJ:=jY.aO [2,1,0];rw[show iX ⟨ro,ep,fr,tg,rd,l⟩ e=(⟨0,0,0,0,0,[]⟩,15)from by unfold iX;(try dsimp only);exact kZ];exact⟨none,0,mF,E,aA tJ⟩
   refine zN 11 ?_;refine vv (v:=.agg #[D 1,D e,D 0,D 0,D 0,.slice none 0 0]) gH ?_;refine sa 0 I kQ ?_;intro Oc lH;refine zN 5 ?_;have sU:=lH.aO [2,1,0];rw[show iX ⟨ro,ep,fr,tg,rd,l⟩ e=(⟨1,e,0,0,0,[]⟩,0)from by unfold iX;(try dsimp only);exact kZ];exact⟨none,0,mF,E,aA sU⟩
  refine zN 7 ?_;refine vv jv ?_;refine sa 0 I kQ ?_;intro NZ tC;refine zN 7 ?_;have tF:=tC.aO [2,1,0];rw[show iX ⟨ro,ep,fr,tg,rd,l⟩ e=(⟨0,0,0,0,0,[]⟩,8)from by unfold iX;(try dsimp only);exact kZ];exact⟨none,0,mF,E,aA tF⟩
 refine zN 7 ?_;refine vv jv ?_;refine zQ ?_;refine sa 0 I kQ ?_;intro VX oW;refine zN 7 ?_;have uw:=oW.aO [2,1,0];rw[show iX ⟨ro,ep,fr,tg,rd,l⟩ e=(⟨0,0,0,0,0,[]⟩,au ⟨ro,ep,fr,tg,rd,l⟩)from by unfold iX;(try dsimp only);exact kZ];exact⟨none,0,mF,E,aA uw⟩
def agq(ro ep fr tg rd:Int)(A:Option Addr)(c:Nat)(l:List Ev)(t:Int)(w:World)(h:Rd w w.heap.size 6 A l.length (aY l))(hb:l.length*48<=reachBytes):
 Calls prog 57 #[.agg #[D ro,D ep,D fr,D tg,D rd,.slice A l.length c],D t] w (kW w (uK ⟨ro,ep,fr,tg,rd,l⟩ t)):=by
 have S:=(St.start w).bV h;have hb2:=hb;unfold reachBytes at hb2;refine gP 44 func57 ?_;refine cw [0,1] ?_;refine zN 2 ?_;refine iU S ?_;intro b1 w2 S3;refine gD S3 fZ ?_;intro b4 w5 S6;refine zN 7 ?_;refine Rq eQ S6 (eB ro ep fr tg rd A c l _ (St.rd 2 S6 E) Y) ?_;intro w7 Z;refine zN 7 ?_;by_cases h10:au ⟨ro,ep,fr,tg,rd,l⟩=0
 ·have hsh:=(eT h10).1;unfold bq at hsh;have hln:=gT (eT h10).2;dsimp only at hsh hln;refine zN 8 ?_;by_cases J:0<=t/\t<5
  ·have atx:=λ(w:World)=>kX t w;rw[decide_eq_true J]at atx;refine dJ eQ (atx _) ?_;rintro _ En ⟨rfl,M⟩;refine⟨_,E,?_⟩;have I:=Z.on M;clear M Z;refine zN 9 ?_;by_cases h16:ro=2
   ·refine zN 12 ?_;refine vv jv ?_;refine sa 0 I kQ ?_;intro MZ qO;refine zN 7 ?_;have uM:=qO.aO [2,1,0];rw[show uK ⟨ro,ep,fr,tg,rd,l⟩ t=(⟨0,0,0,0,0,[]⟩,12)from by unfold uK;(try dsimp only);exact kZ];exact⟨none,0,mF,E,aA uM⟩
   refine zN 4 ?_;by_cases h20:ro=3
   ·refine zN 8 ?_;refine vv jv ?_;refine sa 0 I kQ ?_;intro FN jY;refine zN 7 ?_;have tJ:=jY.aO [2,1,0];rw[show uK ⟨ro,ep,fr,tg,rd,l⟩ t=(⟨0,0,0,0,0,[]⟩,12)from by unfold uK;(try dsimp only);exact kZ];exact⟨none,0,mF,E,aA tJ⟩
   refine zN 10 ?_;by_cases QW:ro=1
   ·refine zN 9 ?_;by_cases uN:ep=1048576
    ·refine zN 7 ?_;refine vv jv ?_;refine sa 0 I kQ ?_;intro M4 sS;refine zN 7 ?_;have tC:=sS.aO [2,1,0];rw[show uK ⟨ro,ep,fr,tg,rd,l⟩ t=(⟨0,0,0,0,0,[]⟩,14)from by unfold uK;(try dsimp only);exact kZ];exact⟨none,0,mF,E,aA tC⟩
    refine zN 12 ?_;refine H7 1 I kQ ?_;intro w29 zP;refine zQ ?_;refine H7 1 zP kQ ?_;intro w31 uw;refine zN 5 ?_;refine dJ eQ (jo 2 ep fr t rd A c l _ (St.rd 2 uw E) hb) ?_;rintro _ ZI ⟨A33,c34,rfl,T37⟩;refine⟨_,E,?_⟩;have tH:=uw.ext T37 E;refine sa 1 tH kQ ?_;intro ZO xV;refine zN 5 ?_;have vS:=xV.aO [3,2,1];have hcp:=(eu (vS.own 0 E)).1;have JL:=vS.bJ 0 E;rw[show uK ⟨ro,ep,fr,tg,rd,l⟩ t=(⟨2,ep,fr,t,rd,l⟩,0)from by unfold uK;(try dsimp only);exact kZ];exact⟨A33,c34,mF,E,JL⟩
   refine zN 7 ?_;refine vv jv ?_;refine sa 0 I kQ ?_;intro SX rW;refine zN 7 ?_;have FQ:=rW.aO [2,1,0];rw[show uK ⟨ro,ep,fr,tg,rd,l⟩ t=(⟨0,0,0,0,0,[]⟩,7)from by unfold uK;(try dsimp only);exact kZ];exact⟨none,0,mF,E,aA FQ⟩
  have aty:=λ(w:World)=>kX t w;rw[decide_eq_false J]at aty;refine dJ eQ (aty _) ?_;rintro _ ZR ⟨rfl,O⟩;refine⟨_,E,?_⟩;have zx:=Z.on O;clear O Z;refine zN 7 ?_;refine vv jv ?_;refine sa 0 zx kQ ?_;intro w49 wu;refine zN 7 ?_;have vk:=wu.aO [2,1,0];rw[show uK ⟨ro,ep,fr,tg,rd,l⟩ t=(⟨0,0,0,0,0,[]⟩,2)from by unfold uK;(try dsimp only);exact kZ];exact⟨none,0,mF,E,aA vk⟩
 refine zN 7 ?_;refine vv jv ?_;refine zQ ?_;refine sa 0 Z kQ ?_;intro w52 CS;refine zN 7 ?_;have uO:=CS.aO [2,1,0];rw[show uK ⟨ro,ep,fr,tg,rd,l⟩ t=(⟨0,0,0,0,0,[]⟩,au ⟨ro,ep,fr,tg,rd,l⟩)from by unfold uK;(try dsimp only);exact kZ];exact⟨none,0,mF,E,aA uO⟩
def aeR(ro ep fr tg rd:Int)(A:Option Addr)(c:Nat)(l:List Ev)(hv:Int)(w:World)(h:Rd w w.heap.size 6 A l.length (aY l))(M:l.length*48<=reachBytes):
 Calls prog 92 #[.agg #[D ro,D ep,D fr,D tg,D rd,.slice A l.length c],D hv] w (kW w (bG ⟨ro,ep,fr,tg,rd,l⟩ hv)):=by
 have S:=(St.start w).bV h;have hb2:=M;unfold reachBytes at hb2;refine gP 55 func92 ?_;refine cw [0,1] ?_;refine zN 2 ?_;refine iU S ?_;intro b1 w2 S3;refine gD S3 fZ ?_;intro b4 w5 S6;refine zN 7 ?_;refine Rq eQ S6 (eB ro ep fr tg rd A c l _ (St.rd 2 S6 E) Y) ?_;intro w7 I;refine zN 6 ?_;by_cases O:au ⟨ro,ep,fr,tg,rd,l⟩=0
 ·have Z:=(eT O).1;unfold bq at Z;have hln:=gT (eT O).2;dsimp only at Z hln;refine zN 11 ?_;by_cases h11:ro=2
  ·refine zN 15 ?_;by_cases h12:hv<0
   ·refine zN 13 ?_;refine vv jv ?_;refine sa 0 I kQ ?_;intro En mZ;refine zN 6 ?_;have jm:=mZ.aO [2,1,0];rw[show bG ⟨ro,ep,fr,tg,rd,l⟩ hv=(⟨0,0,0,0,0,[]⟩,2)from by unfold bG;(try dsimp only);exact kZ];exact⟨none,0,mF,E,aA jm⟩
   refine zN 6 ?_;by_cases h16:(l.length:Int)<hv
   ·refine zN 7 ?_;refine vv jv ?_;refine sa 0 I kQ ?_;intro MZ qO;refine zN 6 ?_;have uM:=qO.aO [2,1,0];rw[show bG ⟨ro,ep,fr,tg,rd,l⟩ hv=(⟨0,0,0,0,0,[]⟩,2)from by unfold bG;(try dsimp only);exact kZ];exact⟨none,0,mF,E,aA uM⟩
   refine zN 24 ?_;by_cases h20:hv=(l.length:Int)
   ·refine zN 12 ?_;refine H7 1 I kQ ?_;intro FN jY;refine zQ ?_;refine H7 1 jY kQ ?_;intro JN kF;refine zN 6 ?_;refine dJ eQ (jo 3 ep fr tg 0 A c l _ (St.rd 2 kF E) M) ?_;rintro _ NZ ⟨A25,c26,rfl,T29⟩;refine⟨_,E,?_⟩;have tC:=kF.ext T29 E;refine sa 1 tC kQ ?_;intro VX oW;refine zN 5 ?_;have uw:=oW.aO [3,2,1];have J:=(eu (uw.own 0 E)).1;have vR:=uw.bJ 0 E;rw[show bG ⟨ro,ep,fr,tg,rd,l⟩ hv=(⟨3,ep,fr,tg,0,l⟩,0)from by unfold bG;(try dsimp only);exact kZ];exact⟨A25,c26,mF,E,vR⟩
   refine zN 4 ?_;by_cases h34:rd=4
   ·refine zN 8 ?_;refine H7 1 I kQ ?_;intro ZI tH;refine zQ ?_;refine H7 1 tH kQ ?_;intro w37 Az;refine zN 6 ?_;refine dJ eQ (jo 3 ep fr tg 0 A c l _ (St.rd 2 Az E) M) ?_;rintro _ w41 ⟨A39,c40,rfl,T43⟩;refine⟨_,E,?_⟩;have Eo:=Az.ext T43 E;refine sa 1 Eo kQ ?_;intro N7 pQ;refine zN 5 ?_;have xk:=pQ.aO [3,2,1];have J:=(eu (xk.own 0 E)).1;have zx:=xk.bJ 0 E;rw[show bG ⟨ro,ep,fr,tg,rd,l⟩ hv=(⟨3,ep,fr,tg,0,l⟩,0)from by unfold bG;(try dsimp only);exact kZ];exact⟨A39,c40,mF,E,zx⟩
   refine zN 9 ?_;refine vv (v:=D (rd+1)) iI ?_;refine zQ ?_;refine H7 1 I kQ ?_;intro ZP xX;refine zN 6 ?_;refine dJ eQ (jo ro ep fr tg (rd+1) A c l _ (St.rd 2 xX E) M) ?_;rintro _ w52 ⟨A50,c51,rfl,T54⟩;refine⟨_,E,?_⟩;have CS:=xX.ext T54 E;refine sa 1 CS kQ ?_;intro w55 V4;refine zN 5 ?_;have vQ:=V4.aO [3,2,1];have J:=(eu (vQ.own 0 E)).1;have DL:=vQ.bJ 0 E;rw[show bG ⟨ro,ep,fr,tg,rd,l⟩ hv=(⟨ro,ep,fr,tg,rd+1,l⟩,0)from by unfold bG;(try dsimp only);exact kZ];exact⟨A50,c51,mF,E,DL⟩
  refine zN 4 ?_;by_cases h59:ro=3
  ·refine zN 11 ?_;by_cases h60:hv<0
   ·refine zN 13 ?_;refine vv jv ?_;refine sa 0 I kQ ?_;intro w61 JO;refine zN 6 ?_;have xg:=JO.aO [2,1,0];rw[show bG ⟨ro,ep,fr,tg,rd,l⟩ hv=(⟨0,0,0,0,0,[]⟩,2)from by unfold bG;(try dsimp only);exact kZ];exact⟨none,0,mF,E,aA xg⟩
   refine zN 6 ?_;by_cases h64:(l.length:Int)<hv
   ·refine zN 7 ?_;refine vv jv ?_;refine sa 0 I kQ ?_;intro w65 Ih;refine zN 6 ?_;have uL:=Ih.aO [2,1,0];rw[show bG ⟨ro,ep,fr,tg,rd,l⟩ hv=(⟨0,0,0,0,0,[]⟩,2)from by unfold bG;(try dsimp only);exact kZ];exact⟨none,0,mF,E,aA uL⟩
   refine zN 24 ?_;refine dJ eQ (jo ro ep fr tg rd A c l _ (St.rd 2 I E) M) ?_;rintro _ w70 ⟨A68,c69,rfl,T72⟩;refine⟨_,E,?_⟩;have rX:=I.ext T72 E;refine sa 1 rX kQ ?_;intro w73 Lc;refine zN 5 ?_;have Em:=Lc.aO [3,2,1];have J:=(eu (Em.own 0 E)).1;have M5:=Em.bJ 0 E;rw[show bG ⟨ro,ep,fr,tg,rd,l⟩ hv=(⟨ro,ep,fr,tg,rd,l⟩,0)from by unfold bG;(try dsimp only);exact kZ];exact⟨A68,c69,mF,E,M5⟩
  refine zN 7 ?_;refine vv jv ?_;refine sa 0 I kQ ?_;intro w77 JU;refine zN 6 ?_;have BZ:=JU.aO [2,1,0];rw[show bG ⟨ro,ep,fr,tg,rd,l⟩ hv=(⟨0,0,0,0,0,[]⟩,7)from by unfold bG;(try dsimp only);exact kZ];exact⟨none,0,mF,E,aA BZ⟩
 refine zN 6 ?_;refine vv jv ?_;refine zQ ?_;refine sa 0 I kQ ?_;intro w80 uo;refine zN 6 ?_;have S82:=uo.aO [2,1,0];rw[show bG ⟨ro,ep,fr,tg,rd,l⟩ hv=(⟨0,0,0,0,0,[]⟩,au ⟨ro,ep,fr,tg,rd,l⟩)from by unfold bG;(try dsimp only);exact kZ];exact⟨none,0,mF,E,aA S82⟩
def Ii(ro ep fr tg rd:Int)(A:Option Addr)(c:Nat)(l:List Ev)(e f:Int)(w:World)(h:Rd w w.heap.size 6 A l.length (aY l))(hb:l.length*48<=reachBytes):
 Calls prog 89 #[.agg #[D ro,D ep,D fr,D tg,D rd,.slice A l.length c],D e,D f] w (kW w (dw ⟨ro,ep,fr,tg,rd,l⟩ e f)):=by
 have S:=(St.start w).bV h;have hb2:=hb;unfold reachBytes at hb2;refine gP 66 func89 ?_;refine cw [0,1,2] ?_;refine zN 2 ?_;refine iU S ?_;intro b1 w2 S3;refine gD S3 fZ ?_;intro b4 w5 S6;refine zN 7 ?_;refine Rq eQ S6 (eB ro ep fr tg rd A c l _ (St.rd 2 S6 E) Y) ?_;intro w7 Z;refine zN 7 ?_;by_cases h10:au ⟨ro,ep,fr,tg,rd,l⟩=0
 ·have hsh:=(eT h10).1;unfold bq at hsh;have hln:=gT (eT h10).2;dsimp only at hsh hln;refine zN 8 ?_;by_cases h11:e<1
  ·refine zN 16 ?_;refine vv jv ?_;refine sa 0 Z kQ ?_;intro w12 Ld;refine zN 7 ?_;have mZ:=Ld.aO [2,1,0];rw[show dw ⟨ro,ep,fr,tg,rd,l⟩ e f=(⟨0,0,0,0,0,[]⟩,2)from by unfold dw;(try dsimp only);exact kZ];exact⟨none,0,mF,E,aA mZ⟩
  refine zN 3 ?_;by_cases h15:1048576<e
  ·refine zN 13 ?_;refine vv jv ?_;refine sa 0 Z kQ ?_;intro w16 zR;refine zN 7 ?_;have qO:=zR.aO [2,1,0];rw[show dw ⟨ro,ep,fr,tg,rd,l⟩ e f=(⟨0,0,0,0,0,[]⟩,2)from by unfold dw;(try dsimp only);exact kZ];exact⟨none,0,mF,E,aA qO⟩
  refine zN 4 ?_;by_cases J:0<=f/\f<5
  ·have abJ:=λ(w:World)=>kX f w;rw[decide_eq_true J]at abJ;refine yO eQ (abJ _) ?_;rintro _ FN ⟨rfl,M⟩;refine⟨_,E,?_⟩;have I:=Z.on M;clear M Z;refine zN 10 ?_;by_cases QW:ro=0
   ·refine zN 36 ?_;by_cases uN:e<=ep
    ·refine zN 7 ?_;refine vv jv ?_;refine sa 0 I kQ ?_;intro M4 sS;refine zN 7 ?_;have tC:=sS.aO [2,1,0];rw[show dw ⟨ro,ep,fr,tg,rd,l⟩ e f=(⟨0,0,0,0,0,[]⟩,15)from by unfold dw;(try dsimp only);exact kZ];exact⟨none,0,mF,E,aA tC⟩
    refine zN 12 ?_;refine vv (v:=.agg #[D 4,D e,D f,D 0,D 0,.slice none 0 0]) gH ?_;refine sa 0 I kQ ?_;intro w29 zP;refine zN 5 ?_;have oW:=zP.aO [2,1,0];rw[show dw ⟨ro,ep,fr,tg,rd,l⟩ e f=(⟨4,e,f,0,0,[]⟩,0)from by unfold dw;(try dsimp only);exact kZ];exact⟨none,0,mF,E,aA oW⟩
   refine zN 4 ?_;by_cases h32:ro=4
   ·refine zN 15 ?_;by_cases h33:ep=e
    ·refine zN 6 ?_;by_cases h34:fr=f
     ·refine zN 9 ?_;refine dJ eQ (jo ro ep fr tg rd A c l _ (St.rd 2 I E) hb) ?_;rintro _ w37 ⟨A35,c36,rfl,T39⟩;refine⟨_,E,?_⟩;have Az:=I.ext T39 E;refine sa 1 Az kQ ?_;intro w40 JL;refine zN 7 ?_;have Eo:=JL.aO [3,2,1];have hcp:=(eu (Eo.own 0 E)).1;have rW:=Eo.bJ 0 E;rw[show dw ⟨ro,ep,fr,tg,rd,l⟩ e f=(⟨ro,ep,fr,tg,rd,l⟩,0)from by unfold dw;(try dsimp only);exact kZ];exact⟨A35,c36,mF,E,rW⟩
     refine zN 11 ?_;by_cases h44:e<=ep
     ·refine zN 7 ?_;refine vv jv ?_;refine sa 0 I kQ ?_;intro w45 xk;refine zN 7 ?_;have zx:=xk.aO [2,1,0];rw[show dw ⟨ro,ep,fr,tg,rd,l⟩ e f=(⟨0,0,0,0,0,[]⟩,15)from by unfold dw;(try dsimp only);exact kZ];exact⟨none,0,mF,E,aA zx⟩
     refine zN 12 ?_;refine vv (v:=.agg #[D 4,D e,D f,D 0,D 0,.slice none 0 0]) gH ?_;refine sa 0 I kQ ?_;intro ZP xX;refine zN 5 ?_;have wu:=xX.aO [2,1,0];rw[show dw ⟨ro,ep,fr,tg,rd,l⟩ e f=(⟨4,e,f,0,0,[]⟩,0)from by unfold dw;(try dsimp only);exact kZ];exact⟨none,0,mF,E,aA wu⟩
    refine zN 17 ?_;by_cases h51:e<=ep
    ·refine zN 7 ?_;refine vv jv ?_;refine sa 0 I kQ ?_;intro w52 CS;refine zN 7 ?_;have uO:=CS.aO [2,1,0];rw[show dw ⟨ro,ep,fr,tg,rd,l⟩ e f=(⟨0,0,0,0,0,[]⟩,15)from by unfold dw;(try dsimp only);exact kZ];exact⟨none,0,mF,E,aA uO⟩
    refine zN 12 ?_;refine vv (v:=.agg #[D 4,D e,D f,D 0,D 0,.slice none 0 0]) gH ?_;refine sa 0 I kQ ?_;intro w55 V4;refine zN 5 ?_;have vQ:=V4.aO [2,1,0];rw[show dw ⟨ro,ep,fr,tg,rd,l⟩ e f=(⟨4,e,f,0,0,[]⟩,0)from by unfold dw;(try dsimp only);exact kZ];exact⟨none,0,mF,E,aA vQ⟩
   refine zN 8 ?_;refine vv jv ?_;refine sa 0 I kQ ?_;intro w58 Ca;refine zN 7 ?_;have V5:=Ca.aO [2,1,0];rw[show dw ⟨ro,ep,fr,tg,rd,l⟩ e f=(⟨0,0,0,0,0,[]⟩,8)from by unfold dw;(try dsimp only);exact kZ];exact⟨none,0,mF,E,aA V5⟩
  have atC:=λ(w:World)=>kX f w;rw[decide_eq_false J]at atC;refine yO eQ (atC _) ?_;rintro _ ZK ⟨rfl,O⟩;refine⟨_,E,?_⟩;have xg:=Z.on O;clear O Z;refine zN 8 ?_;refine vv jv ?_;refine sa 0 xg kQ ?_;intro w65 Ih;refine zN 7 ?_;have uL:=Ih.aO [2,1,0];rw[show dw ⟨ro,ep,fr,tg,rd,l⟩ e f=(⟨0,0,0,0,0,[]⟩,2)from by unfold dw;(try dsimp only);exact kZ];exact⟨none,0,mF,E,aA uL⟩
 refine zN 7 ?_;refine vv jv ?_;refine zQ ?_;refine sa 0 Z kQ ?_;intro w68 Aw;refine zN 7 ?_;have yK:=Aw.aO [2,1,0];rw[show dw ⟨ro,ep,fr,tg,rd,l⟩ e f=(⟨0,0,0,0,0,[]⟩,au ⟨ro,ep,fr,tg,rd,l⟩)from by unfold dw;(try dsimp only);exact kZ];exact⟨none,0,mF,E,aA yK⟩
def FU(ro ep fr tg rd:Int)(A:Option Addr)(c:Nat)(l:List Ev)(e:Int)(w:World)(h:Rd w w.heap.size 6 A l.length (aY l))(hb:l.length*48<=reachBytes):
 Calls prog 97 #[.agg #[D ro,D ep,D fr,D tg,D rd,.slice A l.length c],D e] w (kW w (fT ⟨ro,ep,fr,tg,rd,l⟩ e)):=by
 have S:=(St.start w).bV h;have O:=hb;unfold reachBytes at O;refine gP 28 func97 ?_;refine cw [0,1] ?_;refine zN 2 ?_;refine iU S ?_;intro b1 w2 S3;refine gD S3 fZ ?_;intro b4 w5 S6;refine zN 7 ?_;refine Rq eQ S6 (eB ro ep fr tg rd A c l _ (St.rd 2 S6 E) Y) ?_;intro w7 M;refine zN 7 ?_;by_cases I:au ⟨ro,ep,fr,tg,rd,l⟩=0
 ·have J:=(eT I).1;unfold bq at J;have Z:=gT (eT I).2;dsimp only at J Z;refine zN 9 ?_;by_cases h11:ro=3
  ·refine zN 10 ?_;by_cases h12:e<=ep
   ·refine zN 7 ?_;refine vv jv ?_;refine sa 0 M kQ ?_;intro En mZ;refine zN 7 ?_;have jm:=mZ.aO [2,1,0];rw[show fT ⟨ro,ep,fr,tg,rd,l⟩ e=(⟨0,0,0,0,0,[]⟩,15)from by unfold fT;(try dsimp only);exact kZ];exact⟨none,0,mF,E,aA jm⟩
   refine zN 12 ?_;refine vv (v:=.agg #[D 0,D ep,D 0,D 0,D 0,.slice none 0 0]) gH ?_;refine sa 0 M kQ ?_;intro w16 zR;refine zN 5 ?_;have qO:=zR.aO [2,1,0];rw[show fT ⟨ro,ep,fr,tg,rd,l⟩ e=(⟨0,ep,0,0,0,[]⟩,0)from by unfold fT;(try dsimp only);exact kZ];exact⟨none,0,mF,E,aA qO⟩
  refine zN 7 ?_;refine vv jv ?_;refine sa 0 M kQ ?_;intro GH qj;refine zN 7 ?_;have vC:=qj.aO [2,1,0];rw[show fT ⟨ro,ep,fr,tg,rd,l⟩ e=(⟨0,0,0,0,0,[]⟩,7)from by unfold fT;(try dsimp only);exact kZ];exact⟨none,0,mF,E,aA vC⟩
 refine zN 7 ?_;refine vv jv ?_;refine zQ ?_;refine sa 0 M kQ ?_;intro w22 tJ;refine zN 7 ?_;have kF:=tJ.aO [2,1,0];rw[show fT ⟨ro,ep,fr,tg,rd,l⟩ e=(⟨0,0,0,0,0,[]⟩,au ⟨ro,ep,fr,tg,rd,l⟩)from by unfold fT;(try dsimp only);exact kZ];exact⟨none,0,mF,E,aA kF⟩
section
open ChangeAt
section
variable {P:Program}{N:Nat}{l:Nj}{w w' w0:World}{B:Nat}{fs fs':List J8}{ops:Array Oper}{o:Oper}{rest:List Oper}{Q:Exit->Act->World->Prop}{v:Value}
def sN:List Value->Nat->List Value->List Value
 |xs,_,[]=>xs
 |xs,k,v::vs=>sN (xs.set k v) (k+1) vs
def Ij:∀(vs:List Value) (h:Array Value) (k:Nat),(dn h k vs).toList=sN h.toList k vs
 |[],_,_=>rfl
 |v::vs,h,k=>by rw[dn,sN,Ij vs,Array.toList_setIfInBounds]
def Od(m:Nat):∀(vs xs:List Value) (k:Nat),(sN xs k vs).take m=sN (xs.take m) k vs
 |[],_,_=>rfl
 |v::vs,xs,k=>by rw[sN,sN,Od m vs,take_set]
def Ik:∀(vs xs:List Value) (k:Nat),(sN xs k vs).length=xs.length
 |[],_,_=>rfl
 |v::vs,xs,k=>by rw[sN,Ik vs,length_set]
def akS{e:TypeId}{s g n c k:Nat}{xs:List Value}(h:w.ownsRow B e s (.slice (some ⟨g,0,none⟩) n c) n xs)(cs:List Value):(w.setCells g k cs).ownsRow B e s (.slice (some ⟨g,0,none⟩) n c) n (sN xs k cs):=by
 obtain⟨O,h|⟨g',cap,I,hv,Z,hh,hn,hc,J,ht⟩⟩:=h
 ·exact absurd h.1 iQ
 injection hv with h1 h2 h3
 injection h1 with h1
 injection h1 with h1 h4 h5
 subst h1;subst h3;have hb:gB w g I e:=⟨hh⟩;have M:=jK cs k hb;refine⟨by rw[Ik];exact O,.inr ⟨g,c,dn I k cs,E,Z,M.Mg,hn,hc,by rw[nO];exact J,?_⟩⟩;rw[Ij,Od,ht]
def St.aqY{e:TypeId}{s g n c k:Nat}{xs:List Value}(i:Nat)(S:St B w0 w fs)(hi:fs[i]? =some (.own e s (.slice (some ⟨g,0,none⟩) n c) n xs))(cs:List Value):St B w0 (w.setCells g k cs) (fs.set i (.own e s (.slice (some ⟨g,0,none⟩) n c) n (sN xs k cs))):=
 St.ad5 i S hi (jL g cs k w) (akS (S.own i hi) cs)
def St.agr{e:TypeId}{s g n c k m:Nat}{xs:List Value}(i:Nat)(S:St B w0 w fs)(hi:fs[i]? =some (.own e s (.slice (some ⟨g,0,none⟩) n c) n xs))(hk:k+m<=n*s):w.there g k m:=λj hj=>by
 obtain⟨hl,h|⟨g',cap,I,hv,hg,Z,hn,hc,J,ht⟩⟩:=S.own i hi
 ·exact absurd h.1 iQ
 injection hv with h1 h2 h3
 injection h1 with h1
 injection h1 with h1 h4 h5
 subst h1;subst h3;have hle:n*s<=c*s:=mul_le_mul_right s hn;have M:k+j<I.size:=by rw[J];omega
 have O:gB w g I e:=⟨Z⟩;exact⟨by rw[O.cell (k:=k+j) (Array.getElem?_eq_getElem M)];rfl,O.free _⟩
def l9{ty e:TypeId}{x y:Operand}{s g n c k m:Nat}{cs:Array Value}{xs xs':List Value}(i:Nat)(S:St B w0 w fs)(hw:Nq N ops l o true)(J:o.dst=none)(M:o.op=.store ty x y)(O:ev l x=some (.pointer (some ⟨g,k,none⟩)))(Z:ev l y=some v)
  (hi:fs[i]? =some (.own e s (.slice (some ⟨g,0,none⟩) n c) n xs)) (hv:v.cells=cs) (hz:(P.info? ty).map (·.size)=some m) (hm:cs.size=m) (h1:∀u∈cs.toList,u.oneCell'=true) (hk:k+m<=n*s) (I:sN xs k cs.toList=xs')
  (h:∀w',St B w0 w' (fs.set i (.own e s (.slice (some ⟨g,0,none⟩) n c) n xs'))->wL P N ops Q rest l w'):wL P N ops Q (o::rest) l w:=by
 subst I;exact ND hw J (PN M O Z (PS hv hz hm h1 (S.agr i hi hk))) (h _ (S.aqY i hi cs.toList))
def Jc{ty t:TypeId}{x y:Operand}{b k:Nat}{u:Value}{row row':Array Value}(i:Nat)(S:St B w0 w fs)(hw:Nq N ops l o true)(J:o.dst=none)(M:o.op=.store ty x y)(O:ev l x=some (.pointer (some ⟨b,k,none⟩)))(Z:ev l y=some v)
  (hi:fs[i]? =some (.Mg b row t)) (hv:v.cells= #[u]) (hz:(P.info? ty).map (·.size)=some 1) (h1:u.oneCell'=true) (hk:k<row.size) (I:row.setIfInBounds k u=row')
  (h:∀w',St B w0 w' (fs.set i (.Mg b row' t))->wL P N ops Q rest l w'):wL P N ops Q (o::rest) l w:=by
 refine Fz i S hw J M O Z hi hv hz E (by simpa using h1) Y (row':=row') ?_ E h;subst I;rfl
end
section
variable {P:Program}{N:Nat}{l l':Nj}{w:World}{Q:Exit->Act->World->Prop}
def Kv(P:Program)(c:Code)(Q:Exit->Act->World->Prop)(a:Act)(w:World):Prop:= ∀(b:Frame) (k:List Item) (cs:List Frame),∃e a' w',Q e a' w'/\Arrives P (lone (b.at a (.code c:: .inLoop c::k)) cs w) b k cs e a' w'
def wI(P:Program)(N:Nat)(c:Code)(Q:Exit->Act->World->Prop)(l:Nj)(w:World):Prop:= ∀a,Fr N l a->Kv P c Q a w
def Oe{c:Code}(h:wI P N c Q l w):wC P N (.loop c) Q l w:=by
 intro a F b k cs;obtain⟨e,J,w',M,I⟩:=h a F b k cs;exact⟨e,J,w',M,.of_steps (.one step_loop) I⟩
def ng{c:Code}(h:wC P N c (Exit.then (Kv P c Q) Q) l w):wI P N c Q l w:=by
 intro a F b k cs;obtain⟨e,O,Z,M,I⟩:=h a F b (.inLoop c::k) cs
 cases e with
 |normal=>
  obtain⟨e₂,a₂,w₂,hq₂,J⟩:=M b k cs;exact⟨e₂,a₂,w₂,hq₂,.of_steps (Steps.trans I (.one step_inLoop)) J⟩
 |exit id=>exact⟨_,O,Z,M,.pass (x:=.inLoop c) E (λ_ _=>.inl iQ) I⟩
 |goto l=>exact⟨_,O,Z,M,.pass (x:=.inLoop c) E (λ_ _=>.inl iQ) I⟩
 |ret=>exact⟨_,O,Z,M,.pass (x:=.inLoop c) E (λ_ _=>.inl iQ) I⟩
 |panic ch=>exact⟨_,O,Z,M,.pass (x:=.inLoop c) E (λ_ _=>.inl iQ) I⟩
 |outgrown=>exact⟨_,O,Z,M,.pass (x:=.inLoop c) E (λ_ _=>.inl iQ) I⟩
def qy{c:Code}(h:wI P N c Q l w):wQ N (Exit.then (Kv P c Q) Q) .normal l w:=h
end
end
def abC(A:Option Addr)(n c:Nat)(l:List Value)(w:World)(h:Rd w w.heap.size 6 A n l)(I:∀u∈l,u.oneCell'=true)(Z:n*64<=reachBytes):
 Calls prog 53 #[.slice A n c] w (jA w 42 6 n l):=by
 unfold reachBytes at Z;have S:=(St.start w).bV h;refine gP 8 func53 ?_;refine cw [0] ?_;refine zN 9 ?_
 cases A with
 |none=>
  obtain⟨rfl,rfl⟩:=I5 h;refine vv (v:=.bool true) (bM E E E (vP underlying43)) ?_;refine zN 11 ?_;exact jA.of (Below.refl _ _) (jk _ _ _ _)
 |some a=>
  refine vv (v:=.bool false) (bM E E E (vP underlying43)) ?_;refine zN 7 ?_;refine qX (V:=λb=>.slice (aD b 0) 0 0) (row:= #[]) (t:=42) (n:=0) (s:=6) (xs:=[]) S (wn E) E E (aV (vs:=[]) E trivial kQ) iQ (zero_le _) E ?_;intro b1 w2 M;refine zQ ?_;refine dU (news:=l) (xs':=l) 0 M (wn E) E E E E E E (St.rd 1 M E) underlying43 apI E dQ I lQ Y E ?_;intro A4 c5 w6 hc8 zu S7;refine zN 5 ?_;have J:=S7.aO [1];have O:=J.own 0 E;simp only[Nat.zero_add]at O⊢;exact jA.of J.Nr O
def St.jS{B:Nat}{w0 w:World}{fs:List J8}{b n s:Nat}{row:Array Value}{t:TypeId}{xs:List Value}(i:Nat)(S:St B w0 w fs)(hi:fs[i]? =some (.Mg b row t))(I:row.toList=xs)(J:xs.length=n*s):St B w0 w (fs.set i (.cZ s (some ⟨b,0,none⟩) n xs)):=
 St.turn i S hi S.Nr (Nat.le_refl _) (λ_ _ _=>E) ⟨St.mD i S hi I J,λa h=>by cases h;exact⟨St.ge i S hi,St.lt i S hi⟩⟩ (λk M=>.inl M)
def dI(g:Nat)(p:Nat×Int):List Value:=[.pointer (some ⟨g,p.1,none⟩),.int .i64 p.2]
def bZ(kd ek:Int):ByteArray:=
 if kd=1 then⟨#[109,97,107,101]⟩else if kd=10 then⟨#[109,111,118,101]⟩else if kd=3 then⟨#[115,116,101,112]⟩else if kd=9 then⟨#[115,116,97,114,116]⟩else if kd=8 then⟨#[99,114,97,115,104]⟩
 else if kd=4 then⟨#[99,97,114,114,121]⟩else if kd=5 then⟨#[108,111,115,101]⟩else if kd=6 then⟨#[100,111,117,98,108,101]⟩else if kd=7 then⟨#[97,108,108]⟩
 else if kd=2 then(if ek=1 then⟨#[112,117,98,108,105,115,104]⟩else if ek=2 then⟨#[114,101,99,101,105,118,101]⟩else if ek=3 then⟨#[97,99,107]⟩else⟨#[]⟩)else⟨#[]⟩
def ags(w:World)(g:Nat)(u:ByteArray)(r:Option (List (Nat×Int)))(e:Ending)(w':World):Prop:=match r with
 |none=>e=.returned (.tuple #[.string u,.slice none 0 0,.bool false])/\Below w.heap.size w w'
 |some l=> ∃A,e=.returned (.tuple #[.string u,.slice A l.length l.length,.bool true])/\St w.heap.size w w' [.cZ 2 A l.length (l.flatMap (dI g))]
def Ac.amO(x:Ac){i:Nat}(h:i<11):x.cells.toArray[i]? =some (.int .i64 (x.get i)):=by rw[getElem?_toArray];exact x.cell h
end Go.Proofs.YtefabpdniidmbaaGreatDoor
