import Derived.Shelf.SlicesG.Cmp
import Derived.Shelf.SlGeneric
import Derived.Ground.SlsfProg
import Derived.Ground.SlgcProg
import Derived.Test.YtlfgjcahpppbbaaGreatDoorG1f9af
import Derived.Test.YtlfgjcahpppbbaaGreatDoorGc45fa
import Derived.Test.YtlfgjcahpppbbaaGreatDoorGd64f2
import Derived.Test.YtlfgjcahpppbbaaGreatDoorGe8e34
set_option maxRecDepth 100000
set_option maxHeartbeats 8000000
set_option linter.unusedSimpArgs false
set_option linter.unusedVariables false
namespace Go.Proofs.YtlfgjcahpppbbaaGreatDoor
section
open ChangeShapes WideShapes RowKit
structure eH where
 no:Int
 body:Int
 deriving DecidableEq
structure Ls where
 eF:Int
 hno:Int
 msg:eH
 deriving DecidableEq
structure jO where
 a:kK
 b:kK
 c:kK
 d:kK
 deriving DecidableEq
structure Qd where
 ep:Int
 nx:Int
 gv:Int
 ready:List eH
 aA:List Ls
 ws:jO
 deriving DecidableEq
def eH.cells (m:eH):List Value:=[iV m.no,iV m.body]
def Ls.cells (x:Ls):List Value:=[iV x.eF,iV x.hno,iV x.msg.no,iV x.msg.body]
def jO.cells (x:jO):List Value:=x.a.cells++(x.b.cells++(x.c.cells++x.d.cells))
def jO.at (x:jO) (p:Nat):kK:=if p=0 then x.a else if p=1 then x.b else if p=2 then x.c else x.d
def jO.put (x:jO) (p:Nat) (y:kK):jO:=if p=0 then { x with a:=y } else if p=1 then { x with b:=y } else if p=2 then { x with c:=y } else { x with d:=y }
theorem jO.len (x:jO):x.cells.length=36:=rfl
theorem kK.len (x:kK):x.cells.length=9:=rfl
def bI (e n g:Int) (r l:Value) (W:jO):Array Value:=(iV e::iV n::iV g::r::l::W.cells).toArray
def fF:jO:=⟨yI,yI,yI,yI⟩
section
variable {e n g:Int} {r l:Value} {W:jO}
theorem x9:(bI e n g r l W).size=41:=rfl
theorem tq:(bI e n g r l W)[0]? =some (iV e):=rfl
theorem vL:(bI e n g r l W)[1]? =some (iV n):=rfl
theorem vM:(bI e n g r l W)[2]? =some (iV g):=rfl
theorem jT:(bI e n g r l W)[3]? =some r:=rfl
theorem kX:(bI e n g r l W)[4]? =some l:=rfl
theorem Qg: ∀ (j:Nat) (u:Value),W.cells[j]? =some u->(bI e n g r l W)[5+j]? =some u:=mU (m:=36) rfl
theorem akA: ∀ (j:Nat) (u:Value),(W.at 0).cells[j]? =some u->(bI e n g r l W)[5+j]? =some u:=mU (m:=9) rfl
theorem akB: ∀ (j:Nat) (u:Value),(W.at 1).cells[j]? =some u->(bI e n g r l W)[14+j]? =some u:=mU (m:=9) rfl
theorem akC: ∀ (j:Nat) (u:Value),(W.at 2).cells[j]? =some u->(bI e n g r l W)[23+j]? =some u:=mU (m:=9) rfl
theorem akD: ∀ (j:Nat) (u:Value),(W.at 3).cells[j]? =some u->(bI e n g r l W)[32+j]? =some u:=mU (m:=9) rfl
theorem akE {z:Int}:cu (bI e n g r l W) 0 [iV z]=bI z n g r l W:=rfl
theorem akF {z:Int}:cu (bI e n g r l W) 1 [iV z]=bI e z g r l W:=rfl
theorem Zt {z:Int}:cu (bI e n g r l W) 2 [iV z]=bI e n z r l W:=rfl
theorem I5 {z:Value}:cu (bI e n g r l W) 3 [z]=bI e n g z l W:=rfl
theorem I6 {z:Value}:cu (bI e n g r l W) 4 [z]=bI e n g r z W:=rfl
theorem akG {x:kK}:cu (bI e n g r l W) 5 x.cells=bI e n g r l (W.put 0 x):=by
 apply Array.toList_inj.1;rw [iq _ _ _ (by rw [x9,kK.len];omega)];rfl
theorem akH {x:kK}:cu (bI e n g r l W) 14 x.cells=bI e n g r l (W.put 1 x):=by
 apply Array.toList_inj.1;rw [iq _ _ _ (by rw [x9,kK.len];omega)];rfl
theorem akI {x:kK}:cu (bI e n g r l W) 23 x.cells=bI e n g r l (W.put 2 x):=by
 apply Array.toList_inj.1;rw [iq _ _ _ (by rw [x9,kK.len];omega)];rfl
theorem akJ {x:kK}:cu (bI e n g r l W) 32 x.cells=bI e n g r l (W.put 3 x):=by
 apply Array.toList_inj.1;rw [iq _ _ _ (by rw [x9,kK.len];omega)];rfl
theorem I7 (x:kK): ∀ u∈x.cells,u.oneCell'=true:=bM rfl
theorem agh (x:jO): ∀ u∈x.cells,u.oneCell'=true:=bM rfl
theorem xG (hr:r.oneCell'=true) (hl:l.oneCell'=true): ∀ u∈(bI e n g r l W).toList,u.oneCell'=true:=by
 intro u hu;simp only [bI,List.mem_cons] at hu
 rcases hu with rfl | rfl | rfl | rfl | rfl | hu
 ·rfl
 ·rfl
 ·rfl
 ·exact hr
 ·exact hl
 exact agh W u hu
end
def WC (w:World) (k:Int) (e:Ending) (w':World):Prop:=e= .returned (iV k)/\Below w.heap.size w w'
def FW (w:World) (b:Bool) (e:Ending) (w':World):Prop:=e= .returned (.bool b)/\Below w.heap.size w w'
def rC (nx:Int) (m:eH):Bool:=decide (0<=m.no/\m.no<nx/\0<=m.body/\m.body<=1000000)
theorem xH {nx:Int} {m:eH} (h:rC nx m=true):0<=m.no/\m.no<nx/\0<=m.body/\m.body<=1000000:=of_decide_eq_true h
def jU (nx:Int):Int->List eH->Bool
 | _,[]=>true
 | p,m::r=>(rC nx m&&decide (p<m.no))&&jU nx m.no r
def Md (ep nx gv p:Int) (x:Ls):Bool:=rC nx x.msg&&decide (x.eF=ep/\p<x.hno/\x.hno<gv)
def lI (ep nx gv:Int):Int->List Ls->Bool
 | _,[]=>true
 | p,x::r=>Md ep nx gv p x&&lI ep nx gv x.hno r
def nP (rs:List eH) (ls:List Ls):List Int:=rs.map (·.no)++ls.map (·.msg.no)
def RY (ep nx gv:Int) (rs:List eH) (ls:List Ls):Prop:=0<=ep/\ep<=1048576/\0<=nx/\nx<=1073741824/\0<=gv/\gv<=1073741824/\rs.length+ls.length<=500
def Ap (W:jO):Prop:= ∀ j,j<4->dJ (W.at j)=0
open Classical in
noncomputable def fT (ep nx gv:Int) (rs:List eH) (ls:List Ls) (W:jO):Int:=
 if ¬ RY ep nx gv rs ls then 6 else if ¬ Ap W then 6 else if jU nx (-1) rs=true/\lI ep nx gv (-1) ls=true/\(nP rs ls).Nodup then 0 else 6
section
variable {ep nx gv p:Int} {rs:List eH} {ls:List Ls} {W:jO}
theorem Db (h: ¬ (0<=ep/\ep<=1048576/\0<=nx/\nx<=1073741824/\0<=gv/\gv<=1073741824/\rs.length+ls.length<=500)):fT ep nx gv rs ls W=6:=if_pos h
theorem Aq (h: ¬ (Ap W/\jU nx (-1) rs=true/\lI ep nx gv (-1) ls=true/\(nP rs ls).Nodup)):fT ep nx gv rs ls W=6:=by
 unfold fT
 split
 ·rfl
 split
 ·rfl
 rename_i h1 h2
 rw [if_neg (λh3=>h ⟨Classical.not_not.1 h2,h3⟩)]
theorem aqQ {j:Nat} (hj:j<4) (h:dJ (W.at j)≠0):fT ep nx gv rs ls W=6:=Aq λh1=>h (h1.1 j hj)
theorem awm (h0:RY ep nx gv rs ls) (h1:Ap W) (h2:jU nx (-1) rs=true) (h3:lI ep nx gv (-1) ls=true) (h4:(nP rs ls).Nodup):fT ep nx gv rs ls W=0:=by
 unfold fT;rw [if_neg (λh=>h h0),if_neg (λh=>h h1),if_pos ⟨h2,h3,h4⟩]
theorem Kj {k:Nat} {m:eH} (h:rs[k]? =some m):jU nx p (rs.drop k)=((rC nx m&&decide (p<m.no))&&jU nx m.no (rs.drop (k+1))):=by
 obtain ⟨hk,hm⟩:=List.getElem?_eq_some_iff.1 h;rw [List.drop_eq_getElem_cons hk,hm];rfl
theorem Eu {k:Nat} {x:Ls} (h:ls[k]? =some x):lI ep nx gv p (ls.drop k)=(Md ep nx gv p x&&lI ep nx gv x.hno (ls.drop (k+1))):=by
 obtain ⟨hk,hm⟩:=List.getElem?_eq_some_iff.1 h;rw [List.drop_eq_getElem_cons hk,hm];rfl
theorem Kk {α β:Type} {f:α->β} {l:List α} {k:Nat} {x:α} (h:l[k]? =some x):(l.take k).map f++[f x]=(l.take (k+1)).map f:=by
 rw [List.take_add_one,h];simp
theorem akK (x:kK):dJ x=0\/dJ x=6:=by unfold dJ;split<;>simp
end
theorem UA (W:jO) (w:World):(Instr.index 45 (.agg W.cells.toArray) (iV 0)).run Tryz.prog w= .ok (.agg (W.at 0).cells.toArray) w:=kQ
theorem UC (W:jO) (w:World):(Instr.index 45 (.agg W.cells.toArray) (iV 1)).run Tryz.prog w= .ok (.agg (W.at 1).cells.toArray) w:=kQ
theorem UD (W:jO) (w:World):(Instr.index 45 (.agg W.cells.toArray) (iV 2)).run Tryz.prog w= .ok (.agg (W.at 2).cells.toArray) w:=kQ
theorem UE (W:jO) (w:World):(Instr.index 45 (.agg W.cells.toArray) (iV 3)).run Tryz.prog w= .ok (.agg (W.at 3).cells.toArray) w:=kQ
theorem X6 (W:jO) (k:Nat) (hk:k<4) (w:World):(Instr.index 45 (.agg W.cells.toArray) (iV k)).run Tryz.prog w= .ok (.agg (W.at k).cells.toArray) w:=by
 have h:k=0\/k=1\/k=2\/k=3:=oQ
 rcases h with rfl | rfl | rfl | rfl
 ·exact UA W w
 ·exact UC W w
 ·exact UD W w
 exact UE W w
theorem akL {e n g:Int} {r l:Value} {W:jO} {k:Nat} (hk:k<4): ∀ (j:Nat) (u:Value),(W.at k).cells[j]? =some u->(bI e n g r l W)[5+k*9+j]? =some u:=by
 have h:k=0\/k=1\/k=2\/k=3:=oQ
 rcases h with rfl | rfl | rfl | rfl
 ·exact akA
 ·exact akB
 ·exact akC
 exact akD
theorem iU {α:Type} {enc:α->List Value} {l l':List α} {x:α} {cs:List Value} (h:l++[x]=l') (he:enc x=cs):l.flatMap enc++cs=l'.flatMap enc:=by
 subst h;subst he;simp
structure iM where
 code:Int
 eF:Int
 hno:Int
 body:Int
 deriving DecidableEq
def eD:iM:=⟨0,0,0,0⟩
def qU (k:Int):iM:=⟨k,0,0,0⟩
def iM.cells (a:iM):List Value:=[iV a.code,iV a.eF,iV a.hno,iV a.body]
def iM.val (a:iM):Value:= .agg #[iV a.code,iV a.eF,iV a.hno,iV a.body]
def AL (Q:Qd) (k:Nat) (id bd:Int):Qd×iM×Bool:=
 if (iD (Q.ws.at k) id).2.2≠0 then (Q,qU (iD (Q.ws.at k) id).2.2,false)
 else if (iD (Q.ws.at k) id).2.1=false then (Q,eD,false)
 else if Q.ready.length+Q.aA.length=500\/Q.nx=1073741824 then (Q,qU 14,false)
 else (⟨Q.ep,Q.nx+1,Q.gv,Q.ready++[⟨Q.nx,bd⟩],Q.aA,Q.ws.put k (iD (Q.ws.at k) id).1⟩,eD,true)
def EW (Q:Qd):Qd×iM×Bool:=match Q.ready with
 | []=>(Q,qU 10,false)
 | m::rest=>if Q.gv=1073741824 then (Q,qU 14,false) else (⟨Q.ep,Q.nx,Q.gv+1,rest,Q.aA++[⟨Q.ep,Q.gv,m⟩],Q.ws⟩,⟨0,Q.ep,Q.gv,m.body⟩,true)
def Dn (Q:Qd) (he hn:Int):Qd×iM×Bool:=
 if he≠Q.ep then (Q,qU 11,false)
 else if (Q.aA.filter λx=>decide (x.hno≠hn)).length=Q.aA.length then (Q,qU 7,false)
 else (⟨Q.ep,Q.nx,Q.gv,Q.ready,Q.aA.filter λx=>decide (x.hno≠hn),Q.ws⟩,eD,true)
def jM (m:eH):List eH->List eH
 | []=>[m]
 | x::l=>if m.no<x.no then m::x::l else x::jM m l
def Dp (Q:Qd):Qd×iM×Bool:=
 if Q.ep=1048576 then (Q,qU 14,false)
 else (⟨Q.ep+1,Q.nx,0,Q.aA.foldl (λl x=>jM x.msg l) Q.ready,[],Q.ws⟩,eD,true)
section
variable {ep nx gv bd id he hn:Int} {rs:List eH} {ls:List Ls} {W:jO} {k:Nat}
theorem akM (h: ¬ (iD (W.at k) id).2.2=0):AL ⟨ep,nx,gv,rs,ls,W⟩ k id bd=(⟨ep,nx,gv,rs,ls,W⟩,qU (iD (W.at k) id).2.2,false):=if_pos h
theorem akN (h:(iD (W.at k) id).2.2=0) (h1:(iD (W.at k) id).2.1=false):AL ⟨ep,nx,gv,rs,ls,W⟩ k id bd=(⟨ep,nx,gv,rs,ls,W⟩,eD,false):=by
 unfold AL;rw [if_neg (λh2=>h2 h),if_pos h1]
theorem SN (h:(iD (W.at k) id).2.2=0) (h1:(iD (W.at k) id).2.1=true) (h2:rs.length+ls.length=500\/nx=1073741824):AL ⟨ep,nx,gv,rs,ls,W⟩ k id bd=(⟨ep,nx,gv,rs,ls,W⟩,qU 14,false):=by
 unfold AL;rw [if_neg (λh2=>h2 h),if_neg (λh3=>by rw [h1] at h3;cases h3),if_pos h2]
theorem aqR (h:(iD (W.at k) id).2.2=0) (h1:(iD (W.at k) id).2.1=true) (h2: ¬ (rs.length+ls.length=500\/nx=1073741824)):AL ⟨ep,nx,gv,rs,ls,W⟩ k id bd=(⟨ep,nx+1,gv,rs++[⟨nx,bd⟩],ls,W.put k (iD (W.at k) id).1⟩,eD,true):=by
 unfold AL;rw [if_neg (λh2=>h2 h),if_neg (λh3=>by rw [h1] at h3;cases h3),if_neg h2]
theorem agi (h:rs.length=0):EW ⟨ep,nx,gv,rs,ls,W⟩=(⟨ep,nx,gv,rs,ls,W⟩,qU 10,false):=by
 cases rs with
 | nil=>rfl
 | cons m r=>simp at h
theorem agj (h: ¬ rs.length=0) (h1:gv=1073741824):EW ⟨ep,nx,gv,rs,ls,W⟩=(⟨ep,nx,gv,rs,ls,W⟩,qU 14,false):=by
 cases rs with
 | nil=>simp at h
 | cons m r=>exact if_pos h1
theorem aqS {m:eH} (h:rs[0]? =some m) (h1: ¬ gv=1073741824):EW ⟨ep,nx,gv,rs,ls,W⟩=(⟨ep,nx,gv+1,rs.drop 1,ls++[⟨ep,gv,m⟩],W⟩,⟨0,ep,gv,m.body⟩,true):=by
 cases rs with
 | nil=>simp at h
 | cons m r=>
  simp at h;subst h;exact if_neg h1
theorem aaX (h: ¬ he=ep):Dn ⟨ep,nx,gv,rs,ls,W⟩ he hn=(⟨ep,nx,gv,rs,ls,W⟩,qU 11,false):=if_pos h
theorem agk (h:he=ep) (h1:(ls.filter λx=>decide (x.hno≠hn)).length=ls.length):Dn ⟨ep,nx,gv,rs,ls,W⟩ he hn=(⟨ep,nx,gv,rs,ls,W⟩,qU 7,false):=by
 unfold Dn;rw [if_neg (λh2=>h2 h),if_pos h1]
theorem aqT (h:he=ep) (h1: ¬ (ls.filter λx=>decide (x.hno≠hn)).length=ls.length):Dn ⟨ep,nx,gv,rs,ls,W⟩ he hn=(⟨ep,nx,gv,rs,ls.filter λx=>decide (x.hno≠hn),W⟩,eD,true):=by
 unfold Dn;rw [if_neg (λh2=>h2 h),if_neg h1]
theorem agl (h:ep=1048576):Dp ⟨ep,nx,gv,rs,ls,W⟩=(⟨ep,nx,gv,rs,ls,W⟩,qU 14,false):=if_pos h
theorem aqU (h: ¬ ep=1048576):Dp ⟨ep,nx,gv,rs,ls,W⟩=(⟨ep+1,nx,0,ls.foldl (λl x=>jM x.msg l) rs,[],W⟩,eD,true):=if_neg h
end
theorem akO {e n g:Int} {r l:Value} {W:jO} {x:kK} {k:Nat} (hk:k<4):cu (bI e n g r l W) (5+k*9) x.cells=bI e n g r l (W.put k x):=by
 match k,hk with
 | 0,_=>exact akG
 | 1,_=>exact akH
 | 2,_=>exact akI
 | 3,_=>exact akJ
def EX (B:Nat) (w0:World) (g:Nat) (fs:List Fact) (r:Qd×iM×Bool) (e:Ending) (w':World):Prop:=
 e= .returned (.tuple #[r.2.1.val,.bool r.2.2])/\ ∃ A1 c1 A2 c2,St B w0 w' (.blk g (bI r.1.ep r.1.nx r.1.gv (.slice A1 r.1.ready.length c1) (.slice A2 r.1.aA.length c2) r.1.ws) 120:: .bJ 2 A1 r.1.ready.length (r.1.ready.flatMap eH.cells):: .bJ 4 A2 r.1.aA.length (r.1.aA.flatMap Ls.cells)::fs)
end
section
section
open Go.Shelf Go.RowKit Go.Lib Go.Sort
def UF:Go.Shelf.Ren:=⟨λ| 6=>57 | 15=>81 | 14=>80 | 28=>109 | 29=>110 | 20=>101 | 21=>102 | 22=>103 | 23=>104 | 24=>105 | 25=>106 | 26=>107 | 27=>108 | 46=>139 | 47=>140 | 48=>141 | 49=>142 | 50=>143 | 57=>149 | n=>n,λ| 22=>40 | 24=>87 | 25=>163 | 3=>3 | 39=>194 | 0=>0 | 53=>216 | 55=>218 | 4=>4 | 46=>210 | 45=>209 | 50=>50 | 5=>5 | 9=>9 | 66=>235 | 70=>131 | 76=>246 | 77=>247 | n=>n,λ| n=>n⟩
theorem Zu:Go.Proofs.SlLaysF0.n6 Tryz.prog UF:={
 mixed:=kQ
 f6:=⟨Tryz.f57.name,by decide,Tryz.func57.trans (congrArg some kQ)⟩
 f14:=⟨Tryz.f80.name,by decide,Tryz.func80.trans (congrArg some kQ)⟩
 f15:=Tryz.func81.trans (congrArg some kQ)
 f20:=⟨Tryz.f101.name,by decide,Tryz.func101.trans (congrArg some kQ)⟩
 f21:=⟨Tryz.f102.name,by decide,Tryz.func102.trans (congrArg some kQ)⟩
 f22:=⟨Tryz.f103.name,by decide,Tryz.func103.trans (congrArg some kQ)⟩
 f23:=⟨Tryz.f104.name,by decide,Tryz.func104.trans (congrArg some kQ)⟩
 f24:=⟨Tryz.f105.name,by decide,Tryz.func105.trans (congrArg some kQ)⟩
 f25:=⟨Tryz.f106.name,by decide,Tryz.func106.trans (congrArg some kQ)⟩
 f26:=⟨Tryz.f107.name,by decide,Tryz.func107.trans (congrArg some kQ)⟩
 f27:=⟨Tryz.f108.name,by decide,Tryz.func108.trans (congrArg some kQ)⟩
 f28:=Tryz.func109.trans (congrArg some kQ)
 f29:=Tryz.func110.trans (congrArg some kQ)
 f46:=⟨Tryz.f139.name,by decide,Tryz.func139.trans (congrArg some kQ)⟩
 f47:=Tryz.func140.trans (congrArg some kQ)
 f48:=Tryz.func141.trans (congrArg some kQ)
 f49:=⟨Tryz.f142.name,by decide,Tryz.func142.trans (congrArg some kQ)⟩
 f50:=⟨Tryz.f143.name,by decide,Tryz.func143.trans (congrArg some kQ)⟩
 f57:=⟨Tryz.f149.name,by decide,Tryz.func149.trans (congrArg some kQ)⟩
 t0:=Tryz.underlying0
 a0:=Tryz.isAgg0
 z0:=Tryz.sizeOf0
 v0:=Tryz.zeroValue0
 t3:=Tryz.underlying3
 a3:=Tryz.isAgg3
 z3:=Tryz.sizeOf3
 v3:=Tryz.zeroValue3
 t4:=Tryz.underlying4
 a4:=Tryz.isAgg4
 z4:=Tryz.sizeOf4
 v4:=Tryz.zeroValue4
 t5:=Tryz.underlying5
 a5:=Tryz.isAgg5
 z5:=Tryz.sizeOf5
 v5:=Tryz.zeroValue5
 t9:=Tryz.underlying9
 a9:=Tryz.isAgg9
 z9:=Tryz.sizeOf9
 v9:=Tryz.zeroValue9
 t22:=Tryz.underlying40
 a22:=Tryz.isAgg40
 z22:=Tryz.sizeOf40
 v22:=Tryz.zeroValue40
 t25:=Tryz.underlying163
 a25:=Tryz.isAgg163
 z25:=Tryz.sizeOf163
 v25:=Tryz.zeroValue163
 t39:=Tryz.underlying194
 a39:=Tryz.isAgg194
 z39:=Tryz.sizeOf194
 v39:=Tryz.zeroValue194
 t45:=Tryz.underlying209
 a45:=Tryz.isAgg209
 z45:=Tryz.sizeOf209
 v45:=Tryz.zeroValue209
 t46:=Tryz.underlying210
 a46:=Tryz.isAgg210
 z46:=Tryz.sizeOf210
 v46:=Tryz.zeroValue210
 t50:=Tryz.underlying50
 a50:=Tryz.isAgg50
 z50:=Tryz.sizeOf50
 v50:=Tryz.zeroValue50
 t53:=Tryz.underlying216
 a53:=Tryz.isAgg216
 z53:=Tryz.sizeOf216
 v53:=Tryz.zeroValue216
 t55:=Tryz.underlying218
 a55:=Tryz.isAgg218
 z55:=Tryz.sizeOf218
 v55:=Tryz.zeroValue218
 t66:=Tryz.underlying235
 a66:=Tryz.isAgg235
 z66:=Tryz.sizeOf235
 v66:=Tryz.zeroValue235
 t70:=Tryz.underlying131
 a70:=Tryz.isAgg131
 z70:=Tryz.sizeOf131
 v70:=Tryz.zeroValue131
 t76:=Tryz.underlying246
 a76:=Tryz.isAgg246
 z76:=Tryz.sizeOf246
 v76:=Tryz.zeroValue246
 t77:=Tryz.underlying247
 a77:=Tryz.isAgg247
 z77:=Tryz.sizeOf247
 v77:=Tryz.zeroValue247 }
def X7:Go.Shelf.Ren:=⟨λ| 5=>82 | 7=>111 | n=>n,λ| 22=>3 | 3=>3 | 4=>4 | n=>n,λ| n=>n⟩
theorem aqV:Go.Proofs.SlLaysC2.n5 Tryz.prog X7:={
 mixed:=kQ
 f5:=⟨Tryz.f82.name,by decide,Tryz.func82.trans (congrArg some kQ)⟩
 f7:=⟨Tryz.f111.name,by decide,Tryz.func111.trans (congrArg some kQ)⟩
 t3:=Tryz.underlying3
 a3:=Tryz.isAgg3
 z3:=Tryz.sizeOf3
 v3:=Tryz.zeroValue3
 t4:=Tryz.underlying4
 a4:=Tryz.isAgg4
 z4:=Tryz.sizeOf4
 v4:=Tryz.zeroValue4
 t22:=Tryz.underlying3
 a22:=Tryz.isAgg3
 z22:=Tryz.sizeOf3
 v22:=Tryz.zeroValue3 }
end
open Go.Shelf
open ChangeShapes WideShapes ChangeAt RowKit
open Go.Sort (HoldsK PermIn SortedIn SWO grow)
instance:Inhabited eH:=⟨⟨0,0⟩⟩
def MH (x y:eH):Int:=Lib.compareInt x.no y.no
theorem ahY (x y:eH):ltOf MH x y=decide (x.no<y.no):=by
 unfold ltOf MH Lib.compareInt;by_cases h1:x.no<y.no
 ·simp [h1]
 by_cases h2:y.no<x.no<;>simp [h1,h2]
theorem awn:SWO (ltOf MH) where
 irrefl x:=by rw [ahY];simp
 trans x y z h1 h2:=by rw [ahY] at*;simp at*;omega
 ntrans x y z h1 h2:=by rw [ahY] at*;simp at*;omega
theorem X8 (x y:eH) (W:World):Calls Tryz.prog 58 #[.agg #[.int .i64 x.no,.int .i64 x.body],.agg #[.int .i64 y.no,.int .i64 y.body]] W λe w'=>e= .returned (.int .i64 (MH x y))/\ ∃ q os',w'=grow (W.drewN q) os':=by
 have hcon:=λW'=>AnyG.cmp_Compare_int aqV x.no y.no W';change ∀ W',Calls Tryz.prog 82 _ _ _ at hcon;unfold MH;generalize Lib.compareInt x.no y.no=r at hcon⊢
 go_enter Tryz.func58,Tryz.ntmps58
 go_wp2_with (go_at_call 82;refine (hcon _).mono ?_;rintro e w' ⟨rfl,rfl⟩)
 go_ret
 exact ⟨rfl,0,_,by rw [Go.Sort.alloc_eq_grow,Go.Sort.alloc_eq_grow,Go.Sort.grow_grow];rfl⟩
theorem aqW: ∀ w,(isAgg 87).run Tryz.prog w= .ok true w:=by
 intro w;simp [isAgg,run_underlying Tryz.underlying87,Sem.run_bind,Result.andThen]
theorem akP: ∀ w,(Go.sizeOf 87).run Tryz.prog w= .ok 2 w:=by
 intro w;obtain ⟨z,hq,hs⟩: ∃ z,Tryz.prog.info? 87=some z/\z.size=2:=by
  have h:=ams
  cases hi:Tryz.prog.info? 87 with
  | none=>simp [hi] at h
  | some z=>exact ⟨z,rfl,by simpa [hi] using h⟩
 simp [sizeOf,typeInfo,hq,hs,Sem.run_bind,Result.andThen]
def rD (l:List eH):Prop:=l.Pairwise λa b=>a.no<=b.no
theorem UG (A:Option Addr) (c:Nat) (rs:List eH) (w:World) {B:Nat} (ho:w.ownsRow B 87 2 (.slice A rs.length c) rs.length (rs.flatMap eH.cells)) (hl:rs.length<=1000000):
  Calls Tryz.prog 57 #[.slice A rs.length c,.func (.func 58) #[] #[]] w λe w'=>e= .returned (.tuple #[])/\ ∃ d:List eH,d.Perm rs/\rD d/\
   w'.ownsRow B 87 2 (.slice A rs.length c) rs.length (d.flatMap eH.cells)/\w.grownBy w' (Value.slice A rs.length c).ownBlock:=by
 rcases Nat.eq_zero_or_pos rs.length with h0 | h0
 ·have e0:rs=[]:=List.length_eq_zero_iff.1 h0;subst e0;refine (AnyF.slices_SortFunc_none Zu A c (.func (.func 58) #[] #[]) w).mono ?_;rintro e w' ⟨rfl,rfl⟩;exact ⟨rfl,[],List.Perm.refl _,List.Pairwise.nil,ho,⟨rfl,rfl,rfl,Nat.le_refl _,λ_ _ _=>rfl⟩⟩
 obtain ⟨g,rfl⟩:=ET ho h0;have hg:g<w.heap.size:=EM ho g rfl;have hH:=aaD (enc:=eH.cells) (k:=2) (λ_=>rfl) ho rfl;have hcon:=AnyQ.slices_SortFunc Zu 2 aqW akP eH.cells (λ_=>rfl) (λx v hv=>by simp [eH.cells] at hv;rcases hv with rfl | rfl<;>rfl) MH awn 58 #[] g 0 c rs.toArray w eQ (λ_ _ _ _ x y=>X8 x y _) hH hg jQ;change Calls Tryz.prog 57 _ _ _ at hcon;rw [List.size_toArray] at hcon;refine hcon.mono ?_;rintro e w' ⟨rfl,d',m,os,hp,hs,rfl⟩;obtain ⟨p1,_,p3⟩:=hp
 replace p1:d'.size=rs.length:=p1
 obtain ⟨q1,q2⟩:=XJ (enc:=eH.cells) (k:=2) (d':=d') (m:=m) (os:=os) (λ_=>rfl) ho p1;refine ⟨rfl,d'.toList,?_,?_,q1,q2⟩
 ·have e1:d'.extract 0 rs.length=d':=by rw [<-p1];exact Array.extract_size
  have e2:rs.toArray.extract 0 rs.length=rs.toArray:=by simp
  rw [e1,e2] at p3;simpa using p3
 unfold rD;rw [List.pairwise_iff_getElem];intro i j hi hj hij;rw [Array.length_toList] at hi hj;have h:=hs i j (Nat.zero_le _) hij oQ;rw [ahY,getElem!_pos d' j hj,getElem!_pos d' i hi] at h;simp only [Array.getElem_toList];simpa using h
theorem wO (m:eH): ∀ l:List eH,(jM m l).Perm (m::l)
 | []=>List.Perm.refl _
 | x::l=>by
  unfold jM
  split
  ·exact List.Perm.refl _
  exact ((wO m l).cons x).trans (List.Perm.swap m x l)
theorem La {m:eH}: ∀ {l:List eH},rD l->rD (jM m l)
 | [],_=>by simp [jM,rD]
 | x::l,h=>by
  obtain ⟨h1,h2⟩:=List.pairwise_cons.1 h;unfold jM
  split
  ·rename_i hlt
   refine List.pairwise_cons.2 ⟨λy hy=>?_,h⟩
   rcases List.mem_cons.1 hy with e | e
   ·rw [e];omega
   have:=h1 y e;omega
  rename_i hlt
  refine List.pairwise_cons.2 ⟨λy hy=>?_,La h2⟩
  rcases List.mem_cons.1 ((wO m l).mem_iff.1 hy) with e | e
  ·rw [e];omega
  exact h1 y e
theorem GH: ∀ (ls:List Ls) (rs:List eH),(ls.foldl (λl x=>jM x.msg l) rs).Perm (rs++ls.map (·.msg))
 | [],rs=>by simp
 | x::ls,rs=>by
  rw [List.foldl_cons,List.map_cons];refine (GH ls (jM x.msg rs)).trans ?_;refine ((wO x.msg rs).append_right _).trans ?_;rw [List.cons_append];exact List.perm_middle.symm
theorem SQ: ∀ (ls:List Ls) {rs:List eH},rD rs->rD (ls.foldl (λl x=>jM x.msg l) rs)
 | [],_,h=>h
 | _::ls,_,h=>SQ ls (La h)
theorem agm {rs d:List eH} {ls:List Ls} (hp:d.Perm (rs++ls.map (·.msg))) (ha:rD d) (hA:rD rs) (hN:(nP rs ls).Nodup):d=ls.foldl (λl x=>jM x.msg l) rs:=by
 have hF:=GH ls rs;have hnd:((rs++ls.map (·.msg)).map (·.no)).Nodup:=by
  unfold nP at hN;rw [List.map_append,List.map_map];exact hN
 refine List.Perm.eq_of_pairwise (le:=λa b:eH=>a.no<=b.no) (λa b ha' hb' h1 h2=>?_) ha (SQ ls hA) (hp.trans hF.symm);have m1:=hp.mem_iff.1 ha';have m2:=hF.mem_iff.1 hb';have e:a.no=b.no:=oQ;have:=List.pairwise_map.1 hnd;obtain ⟨i,hi,e1⟩:=List.getElem_of_mem m1;obtain ⟨j,hj,e2⟩:=List.getElem_of_mem m2;rw [List.pairwise_iff_getElem] at this
 rcases Nat.lt_trichotomy i j with h | h | h
 ·exact absurd (by rw [e1,e2];exact e) (this i j hi hj h)
 ·subst h;rw [<-e1,<-e2]
 exact absurd (by rw [e1,e2];exact e.symm) (this j i hj hi h)
end
section
open ChangeShapes WideShapes RowKit
def bS:Qd:=⟨0,0,0,[],[],fF⟩
def Qd.row (Q:Qd) (A1:Option Addr) (c1:Nat) (A2:Option Addr) (c2:Nat):Array Value:=bI Q.ep Q.nx Q.gv (.slice A1 Q.ready.length c1) (.slice A2 Q.aA.length c2) Q.ws
noncomputable def Qd.fault (Q:Qd):Int:=fT Q.ep Q.nx Q.gv Q.ready Q.aA Q.ws
def stepM (Q:Qd) (e:Ev):Qd×iM×Bool:=
 if e.kind=1 then AL Q e.producer.toNat e.id e.body else if e.kind=2 then EW Q else if e.kind=3 then Dn Q e.aG e.hno else Dp Q
noncomputable def iw (Q:Qd) (e:Ev):Qd×iM×Bool×Int:=
 if Q.fault≠0 then (bS,eD,false,Q.fault) else if aX e≠0 then (bS,eD,false,aX e) else ((stepM Q e).1,(stepM Q e).2.1,(stepM Q e).2.2,0)
def akQ (w:World) (r:Qd×iM×Bool×Int) (e:Ending) (w':World):Prop:= ∃ A1 c1 A2 c2,e= .returned (.tuple #[.agg (bI r.1.ep r.1.nx r.1.gv (.slice A1 r.1.ready.length c1) (.slice A2 r.1.aA.length c2) r.1.ws),r.2.1.val,.bool r.2.2.1,.int .i64 r.2.2.2])/\
 St w.heap.size w w' [.bJ 2 A1 r.1.ready.length (r.1.ready.flatMap eH.cells),.bJ 4 A2 r.1.aA.length (r.1.aA.flatMap Ls.cells)]
section
variable {ep nx gv p:Int} {rs:List eH} {ls:List Ls} {W:jO}
theorem I8 (h:fT ep nx gv rs ls W=0):RY ep nx gv rs ls/\Ap W/\jU nx (-1) rs=true/\lI ep nx gv (-1) ls=true/\(nP rs ls).Nodup:=by
 unfold fT at h
 split at h
 ·cases h
 split at h
 ·cases h
 split at h
 ·rename_i h1 h2 h3
  exact ⟨Classical.not_not.1 h1,Classical.not_not.1 h2,h3⟩
 cases h
theorem aeC: ∀ {rs:List eH} {p:Int},jU nx p rs=true->(∀ x∈rs,p<x.no)/\rs.Pairwise λa b=>a.no<b.no
 | [],_,_=>⟨λx hx=>by simp at hx,List.Pairwise.nil⟩
 | m::r,p,h=>by
  simp only [jU,Bool.and_eq_true,decide_eq_true_eq] at h;obtain ⟨⟨_,h1⟩,h2⟩:=h;obtain ⟨h3,h4⟩:=aeC h2;refine ⟨λx hx=>?_,List.pairwise_cons.2 ⟨h3,h4⟩⟩
  rcases List.mem_cons.1 hx with rfl | hx
  ·exact h1
  exact Int.lt_trans h1 (h3 x hx)
theorem akR (h:jU nx (-1) rs=true):rD rs:=(aeC h).2.imp λh=>Int.le_of_lt h
theorem WE: ∀ {ls:List Ls} {p:Int},lI ep nx gv p ls=true->(∀ x∈ls,x.eF=ep/\p<x.hno)/\ls.Pairwise λa b=>a.hno<b.hno
 | [],_,_=>⟨λx hx=>by simp at hx,List.Pairwise.nil⟩
 | m::r,p,h=>by
  simp only [lI,Md,Bool.and_eq_true,decide_eq_true_eq] at h;obtain ⟨⟨_,h0,h1,_⟩,h2⟩:=h;obtain ⟨h3,h4⟩:=WE h2;refine ⟨λx hx=>?_,List.pairwise_cons.2 ⟨λx hx=>(h3 x hx).2,h4⟩⟩
  rcases List.mem_cons.1 hx with rfl | hx
  ·exact ⟨h0,h1⟩
  exact ⟨(h3 x hx).1,Int.lt_trans h1 (h3 x hx).2⟩
theorem aqX (h:lI ep nx gv (-1) ls=true): ∀ x∈ls,x.eF=ep:=λx hx=>((WE h).1 x hx).1
theorem aqY (h:lI ep nx gv (-1) ls=true): ∀ (i j:Nat) (a b:Ls),ls[i]? =some a->ls[j]? =some b->a.hno=b.hno->i=j:=by
 have hp:=(WE h).2;rw [List.pairwise_iff_getElem] at hp;intro i j a b ha hb e;obtain ⟨hi,rfl⟩:=List.getElem?_eq_some_iff.1 ha;obtain ⟨hj,rfl⟩:=List.getElem?_eq_some_iff.1 hb
 rcases Nat.lt_trichotomy i j with h1 | h1 | h1
 ·have:=hp i j hi hj h1;omega
 ·exact h1
 have:=hp j i hj hi h1;omega
theorem Zv {e:Ev} (h:aX e=0):1<=e.kind/\e.kind<=4:=by
 unfold aX at h
 split at h
 ·cases h
 rename_i h1
 exact Classical.not_not.1 h1
theorem Zw {e:Ev} (h:aX e=0):0<=e.producer/\e.producer<=3:=by
 unfold aX at h
 split at h
 ·cases h
 split at h
 ·cases h
 rename_i h1 h2
 split at h
 ·cases h
 split at h
 ·cases h
 rename_i h3 h4
 by_cases hk:e.kind=1
 ·have h5:=Classical.not_not.1 (λh6=>h2 ⟨hk,h6⟩);simp only [Bool.and_eq_true,jP,decide_eq_true_eq] at h5;omega
 have h5:=Classical.not_not.1 (λh6=>h4 ⟨hk,h6⟩);omega
end
section
variable {Q:Qd} {e:Ev}
theorem MI (h:Q.fault≠0):iw Q e=(bS,eD,false,Q.fault):=if_pos h
theorem QS (h:Q.fault=0) (h1:aX e≠0):iw Q e=(bS,eD,false,aX e):=by
 unfold iw;rw [if_neg (λh2=>h2 h),if_pos h1]
theorem zM (h:Q.fault=0) (h1:aX e=0):iw Q e=((stepM Q e).1,(stepM Q e).2.1,(stepM Q e).2.2,0):=by
 unfold iw;rw [if_neg (λh2=>h2 h),if_neg (λh2=>h2 h1)]
end
noncomputable def gX:Qd->List iM->List Ev->Option (Qd×List iM)
 | Q,an,[]=>some (Q,an)
 | Q,an,e::r=>if (iw Q e).2.2.2=0/\(iw Q e).2.2.1=true then gX (iw Q e).1 (an++[(iw Q e).2.1]) r else none
noncomputable def av (l:List Ev):Qd×List iM×Int:=
 if 2000<l.length then (bS,[],1) else match gX bS [] l with
  | some r=>(r.1,r.2,0)
  | none=>(bS,[],3)
section
variable {Q:Qd} {an:List iM} {l:List Ev} {e:Ev} {k:Nat}
theorem UH (h:l[k]? =some e) (h0:(iw Q e).2.2.2=0) (h1:(iw Q e).2.2.1=true):gX Q an (l.drop k)=gX (iw Q e).1 (an++[(iw Q e).2.1]) (l.drop (k+1)):=by
 obtain ⟨hk,hm⟩:=List.getElem?_eq_some_iff.1 h;rw [List.drop_eq_getElem_cons hk,hm,gX,if_pos ⟨h0,h1⟩]
theorem UJ (h:l[k]? =some e) (h0: ¬ ((iw Q e).2.2.2=0/\(iw Q e).2.2.1=true)):gX Q an (l.drop k)=none:=by
 obtain ⟨hk,hm⟩:=List.getElem?_eq_some_iff.1 h;rw [List.drop_eq_getElem_cons hk,hm,gX,if_neg h0]
theorem X9 (h:l.length<=k):gX Q an (l.drop k)=some (Q,an):=by
 rw [List.drop_eq_nil_of_le h];rfl
theorem Oj (h:2000<l.length):av l=(bS,[],1):=if_pos h
theorem EY {r:Qd×List iM} (h: ¬ 2000<l.length) (h1:gX bS [] l=some r):av l=(r.1,r.2,0):=by
 unfold av;rw [if_neg h,h1]
theorem Kl (h: ¬ 2000<l.length) (h1:gX bS [] l=none):av l=(bS,[],3):=by
 unfold av;rw [if_neg h,h1]
theorem gJ (h:(av l).2.2=0):l.length<=2000:=by
 unfold av at h
 split at h
 ·cases h
 omega
theorem agn:(stepM Q e).1.ready.length+(stepM Q e).1.aA.length<=Q.ready.length+Q.aA.length+1:=by
 unfold stepM
 split
 ·unfold AL;split; · dsimp only;omega
  split; · dsimp only;omega
  split; · dsimp only;omega
  simp only [List.length_append,List.length_cons,List.length_nil];omega
 split
 ·obtain ⟨ep,nx,gv,rs,ls,W⟩:=Q
  cases rs with
  | nil=>simp [EW]
  | cons m r=>simp only [EW];split<;>simp<;>omega
 split
 ·unfold Dn;split; · dsimp only;omega
  split; · dsimp only;omega
  have:=List.length_filter_le (λx:Ls=>decide (x.hno≠e.hno)) Q.aA;simp only;omega
 unfold Dp;split; · dsimp only;omega
 have h:=(GH Q.aA Q.ready).length_eq;rw [List.length_append,List.length_map] at h;simp only [List.length_nil];omega
theorem Ol (h:(iw Q e).2.2.2=0):(iw Q e).1.ready.length+(iw Q e).1.aA.length<=501:=by
 by_cases h0:Q.fault=0
 ·by_cases h1:aX e=0
  ·rw [zM h0 h1];have h2:=(I8 h0).1;unfold RY at h2;have:=agn (Q:=Q) (e:=e);simp only;omega
  rw [QS h0 h1];simp [bS]
 rw [MI h0];simp [bS]
theorem Eb: ∀ {l:List Ev} {Q:Qd} {an:List iM} {r:Qd×List iM},Q.ready.length+Q.aA.length<=501->gX Q an l=some r->r.1.ready.length+r.1.aA.length<=501/\r.2.length=an.length+l.length
 | [],Q,an,r,hQ,h=>by
  simp only [gX,Option.some.injEq] at h;subst h;exact ⟨hQ,by simp⟩
 | e::l,Q,an,r,hQ,h=>by
  rw [gX] at h
  split at h
  ·rename_i hc
   obtain ⟨h1,h2⟩:=Eb (Ol hc.1) h;exact ⟨h1,by rw [h2];simp;omega⟩
  cases h
theorem Ya:(av l).1.ready.length+(av l).1.aA.length<=501:=by
 unfold av
 split
 ·simp [bS]
 split
 ·rename_i r hr
  exact (Eb (by simp [bS]) hr).1
 simp [bS]
end
structure bn where
 role:Int
 ep:Int
 fr:Int
 tg:Int
 rd:Int
 evs:List Ev
 deriving DecidableEq
def bF:bn:=⟨0,0,0,0,0,[]⟩
def aI:Ev:=⟨4,0,0,0,0,0⟩
def bq (b:bn):Prop:=(b.role=0/\0<=b.ep/\b.ep<=1048576/\b.fr=0/\b.tg=0/\b.rd=0/\b.evs.length=0)\/(1<=b.ep/\b.ep<=1048576/\
 ((b.role=1/\b.fr=0/\b.tg=0/\b.rd=0)\/(b.role=2/\b.fr=0/\0<=b.tg/\b.tg<5/\0<=b.rd/\b.rd<=4)\/(b.role=3/\b.fr=0/\0<=b.tg/\b.tg<5/\b.rd=0)\/(b.role=4/\0<=b.fr/\b.fr<5/\b.tg=0/\b.rd=0)))
instance (b:bn):Decidable (bq b):=by unfold bq;exact inferInstance
open Classical in
noncomputable def au (b:bn):Int:=if bq b/\(av b.evs).2.2=0 then 0 else 6
section
variable {b:bn}
theorem mE (h:bq b) (h1:(av b.evs).2.2=0):au b=0:=if_pos ⟨h,h1⟩
theorem Km (h: ¬ bq b):au b=6:=if_neg λh1=>h h1.1
theorem Qh (h: ¬ (av b.evs).2.2=0):au b=6:=if_neg λh1=>h h1.2
theorem eO (h:au b=0):bq b/\(av b.evs).2.2=0:=by
 unfold au at h
 split at h
 ·assumption
 cases h
end
noncomputable def gP (b:bn) (e:Ev):bn×iM×Bool×Int:=
 if au b≠0 then (bF,eD,false,au b) else if aX e≠0 then (bF,eD,false,aX e) else if e.kind=4 then (bF,eD,false,3)
 else if b.role=3 then (b,qU 12,false,0) else if b.role≠1/\b.role≠2 then (b,qU 7,false,0)
 else if (iw (av b.evs).1 e).2.2.1=false then (b,(iw (av b.evs).1 e).2.1,false,0)
 else if 1999<=b.evs.length then (b,qU 14,false,0) else ({ b with evs:=b.evs++[e] },(iw (av b.evs).1 e).2.1,true,0)
noncomputable def iR (b:bn) (ep:Int):bn×Int:=
 if au b≠0 then (bF,au b) else if ¬ (1<=ep/\ep<=1048576) then (bF,2) else if b.role≠0 then (bF,8) else if ep<=b.ep then (bF,15) else (⟨1,ep,0,0,0,[]⟩,0)
noncomputable def zO (b:bn) (tg:Int):bn×Int:=
 if au b≠0 then (bF,au b) else if ¬ (0<=tg/\tg<=4) then (bF,2) else if b.role=2\/b.role=3 then (bF,12) else if b.role≠1 then (bF,7)
 else if b.ep=1048576 then (bF,14) else (⟨2,b.ep,0,tg,0,b.evs⟩,0)
noncomputable def bK (b:bn) (hv:Int):bn×Int:=
 if au b≠0 then (bF,au b) else if b.role≠2/\b.role≠3 then (bF,7) else if ¬ (0<=hv/\hv<=b.evs.length) then (bF,2)
 else if b.role=3 then (b,0) else if hv=b.evs.length\/b.rd=4 then ({ b with role:=3,rd:=0 },0) else ({ b with rd:=b.rd+1 },0)
noncomputable def iK (b:bn) (hv:Int):List Ev×Bool×Int:=
 if au b≠0 then ([],false,au b) else if b.role≠2/\b.role≠3 then ([],false,7) else if ¬ (0<=hv/\hv<=b.evs.length) then ([],false,2)
 else ((b.evs.drop hv.toNat).take 3,decide (b.role=3/\b.evs.length<=hv.toNat+3),0)
noncomputable def dG (b:bn) (ep fr:Int):bn×Int:=
 if au b≠0 then (bF,au b) else if ¬ (1<=ep/\ep<=1048576/\0<=fr/\fr<=4) then (bF,2) else if b.role≠0/\b.role≠4 then (bF,8)
 else if b.role=4/\b.ep=ep/\b.fr=fr then (b,0) else if ep<=b.ep then (bF,15) else (⟨4,ep,fr,0,0,[]⟩,0)
noncomputable def dn (b:bn) (ep at_:Int) (l:List Ev) (last:Bool):bn×Int:=
 if au b≠0 then (bF,au b) else if b.role≠4 then (bF,7) else if b.ep≠ep then (bF,15) else if ¬ (0<=at_/\at_<=b.evs.length) then (bF,2)
 else if ¬ (b.evs.drop at_.toNat).take l.length=l.take (b.evs.length-at_.toNat) then (bF,3)
 else if last=true/\at_.toNat+l.length<b.evs.length then (bF,3)
 else if au (if last=true then ⟨1,ep,0,0,0,b.evs++l.drop (b.evs.length-at_.toNat)++[aI]⟩ else { b with evs:=b.evs++l.drop (b.evs.length-at_.toNat) })≠0 then (bF,3)
 else (if last=true then ⟨1,ep,0,0,0,b.evs++l.drop (b.evs.length-at_.toNat)++[aI]⟩ else { b with evs:=b.evs++l.drop (b.evs.length-at_.toNat) },0)
noncomputable def fZ (b:bn) (ep:Int):bn×Int:=
 if au b≠0 then (bF,au b) else if b.role≠3 then (bF,7) else if ep<=b.ep then (bF,15) else (⟨0,b.ep,0,0,0,[]⟩,0)
noncomputable def dV (b:bn):bn×Int:=
 if au b≠0 then (bF,au b) else if b.role≠1/\b.role≠2 then (b,0)
 else if au ⟨1,b.ep,0,0,0,b.evs++[aI]⟩≠0 then (bF,14) else (⟨1,b.ep,0,0,0,b.evs++[aI]⟩,0)
theorem kL {α:Type} {a b:α} (h:a=b:=by (repeat' (first | rfl | omega | split))<;>(simp only [Prod.mk.injEq,bn.mk.injEq,and_true,true_and,and_self];omega)):a=b:=h
instance:Am eH where
 size:=2
 ints m:=[m.no,m.body]
 of xs:=⟨xs.getD 0 0,xs.getD 1 0⟩
 pos:=by decide
 len _:=rfl
 inv xs h:=by
  match xs,h with
  | [a,b],_=>rfl
instance:Am Ls where
 size:=4
 ints m:=[m.eF,m.hno,m.msg.no,m.msg.body]
 of xs:=⟨xs.getD 0 0,xs.getD 1 0,⟨xs.getD 2 0,xs.getD 3 0⟩⟩
 pos:=by decide
 len _:=rfl
 inv xs h:=by
  match xs,h with
  | [a,b,c,d],_=>rfl
theorem agp (l:List eH): ∀ u∈l.flatMap eH.cells,u.oneCell'=true:=FT l
theorem Zx (l:List Ls): ∀ u∈l.flatMap Ls.cells,u.oneCell'=true:=FT l
section
variable {P:Program} {w:World} {t e:TypeId} {xo yo:Operand}
theorem vN {A:Option Addr} {n c:Nat} (h:P.underlying t=some (.slice e)):(do eqGuard .eql t xo yo (.slice A n c) (.slice none 0 0);binOp .eql t (.slice A n c) (.slice none 0 0):Sem Value).run P w= .ok (.bool A.isNone) w:=by
 rw [Sem.run_bind,show (eqGuard .eql t xo yo (.slice A n c) (.slice none 0 0)).run P w= .ok () w from rfl];exact Lib.run_eql_slice_nil w t e A n c 0 0 h
end
theorem I9 {w:World} {B s n:Nat} {xs:List Value} (h:Rd w B s none n xs):n=0/\xs=[]:=by
 have h1:n=0:=by
  rcases Nat.eq_zero_or_pos n with h0 | h0
  ·exact h0
  obtain ⟨b,off,e,_⟩:=h.2 h0
  cases e
 subst h1;exact ⟨rfl,List.eq_nil_of_length_eq_zero (by have:=h.1;omega)⟩
theorem QT (A:Option Addr) (n c:Nat) (l:List Value) (w:World) (h:Rd w w.heap.size 2 A n l) (hone: ∀ u∈l,u.oneCell'=true) (hc:n*16<=reachBytes):
    Calls Tryz.prog 27 #[.slice A n c] w (jq w 87 2 n l):=by
 unfold reachBytes at hc;have S:=(St.start w).bL h;refine gu 8 Tryz.func27 ?_;refine cw [0] ?_;refine zN 9 ?_
 cases A with
 | none=>
  obtain ⟨rfl,rfl⟩:=I9 h;refine vv (v:= .bool true) (bE rfl rfl rfl (vN Tryz.underlying40)) ?_;refine zN 11 ?_;exact jq.of (Below.refl _ _) (jg _ _ _ _)
 | some a=>
  refine vv (v:= .bool false) (bE rfl rfl rfl (vN Tryz.underlying40)) ?_;refine zN 7 ?_;refine oM (V:=λb=> .slice (aD b 0) 0 0) (row:= #[]) (t:=87) (n:=0) (s:=2) (xs:=[]) S (wn rfl) rfl rfl (aS (vs:=[]) rfl trivial kQ) iQ (Nat.zero_le _) rfl ?_;intro b1 w2 S3;refine zQ ?_;refine dx (news:=l) (xs':=l) 0 S3 (wn rfl) rfl rfl rfl rfl rfl rfl (St.rd 1 S3 rfl) Tryz.underlying40 VE rfl dQ hone lQ oQ rfl ?_;intro A4 c5 w6 hc8 qV S7;refine zN 5 ?_;have qx:=S7.aP [1];have ho:=qx.own 0 rfl;simp only [Nat.zero_add] at ho⊢;exact jq.of qx.low ho
theorem QU (A:Option Addr) (n c:Nat) (l:List Value) (w:World) (h:Rd w w.heap.size 4 A n l) (hone: ∀ u∈l,u.oneCell'=true) (hc:n*32<=reachBytes):
    Calls Tryz.prog 28 #[.slice A n c] w (jq w 89 4 n l):=by
 unfold reachBytes at hc;have S:=(St.start w).bL h;refine gu 8 Tryz.func28 ?_;refine cw [0] ?_;refine zN 9 ?_
 cases A with
 | none=>
  obtain ⟨rfl,rfl⟩:=I9 h;refine vv (v:= .bool true) (bE rfl rfl rfl (vN Tryz.underlying41)) ?_;refine zN 11 ?_;exact jq.of (Below.refl _ _) (jg _ _ _ _)
 | some a=>
  refine vv (v:= .bool false) (bE rfl rfl rfl (vN Tryz.underlying41)) ?_;refine zN 7 ?_;refine oM (V:=λb=> .slice (aD b 0) 0 0) (row:= #[]) (t:=89) (n:=0) (s:=4) (xs:=[]) S (wn rfl) rfl rfl (aS (vs:=[]) rfl trivial kQ) iQ (Nat.zero_le _) rfl ?_;intro b1 w2 S3;refine zQ ?_;refine dx (news:=l) (xs':=l) 0 S3 (wn rfl) rfl rfl rfl rfl rfl rfl (St.rd 1 S3 rfl) Tryz.underlying41 aes rfl dQ hone lQ oQ rfl ?_;intro A4 c5 w6 hc8 qV S7;refine zN 5 ?_;have qx:=S7.aP [1];have ho:=qx.own 0 rfl;simp only [Nat.zero_add] at ho⊢;exact jq.of qx.low ho
theorem DV (e nx g:Int) (r l:Value) (W:jO) (m:eH) (w:World):
    Calls Tryz.prog 51 #[.agg (bI e nx g (r) (l) W),.agg #[iV m.no,iV m.body]] w (FW w (rC nx m)):=by
 have S:=St.start w;refine gu 25 Tryz.func51 ?_;refine cw [0,1] ?_;refine zN 2 ?_;refine iH S ?_;intro b1 w2 S3;refine iH S3 ?_;intro b4 w5 S6;refine zN 7 ?_;by_cases h7:0<=m.no
 ·refine zN 5 ?_;refine vg (aj rfl rfl (aC (St.cl 1 S6 rfl vL))) ?_;by_cases h8:m.no<nx
  ·refine zN 5 ?_;by_cases h9:0<=m.body
   ·refine zN 5 ?_;by_cases h10:m.body<=1000000
    ·refine zN 7 ?_;refine ⟨?_,S6.low⟩;rw [show rC nx m=true from decide_eq_true ⟨‹_›,‹_›,‹_›,‹_›⟩];rfl
    refine zN 7 ?_;refine ⟨?_,S6.low⟩;rw [show rC nx m=false from decide_eq_false (λh=>absurd h.2.2.2 ‹_›)];rfl
   refine zN 12 ?_;refine ⟨?_,S6.low⟩;rw [show rC nx m=false from decide_eq_false (λh=>absurd h.2.2.1 ‹_›)];rfl
  refine zN 17 ?_;refine ⟨?_,S6.low⟩;rw [show rC nx m=false from decide_eq_false (λh=>absurd h.2.1 ‹_›)];rfl
 refine zN 23 ?_;refine ⟨?_,S6.low⟩;rw [show rC nx m=false from decide_eq_false (λh=>absurd h.1 ‹_›)];rfl
theorem QV (ep nx gv:Int) (A1 A2:Option Addr) (c1 c2:Nat) (rs:List eH) (ls:List Ls) (W:jO) (w:World) (h1:Rd w w.heap.size 2 A1 rs.length (rs.flatMap eH.cells)) (h2:Rd w w.heap.size 4 A2 ls.length (ls.flatMap Ls.cells)) (hb1:rs.length*16<=reachBytes) (hb2:ls.length*32<=reachBytes):
    Calls Tryz.prog 25 #[.agg (bI ep nx gv (.slice A1 rs.length c1) (.slice A2 ls.length c2) W)] w (WC w (fT ep nx gv rs ls W)):=by
 unfold reachBytes at hb1 hb2;have S:=((St.start w).bL h2).bL h1;refine gu 140 Tryz.func25 ?_;refine cw [0] ?_;refine zN 2 ?_;refine iH S ?_;intro b1 w2 S3;refine zN 7 ?_;refine vv (aj rfl rfl (aC (St.cl 0 S3 rfl tq))) ?_;by_cases h4:ep<0
 ·refine zN 47 ?_;exact ⟨gZ (Db oQ).symm,S3.low⟩
 refine zN 3 ?_;refine vg (aj rfl rfl (aC (St.cl 0 S3 rfl tq))) ?_;by_cases h5:1048576<ep
 ·refine zN 43 ?_;exact ⟨gZ (Db oQ).symm,S3.low⟩
 refine zN 4 ?_;refine vg (aj rfl rfl (aC (St.cl 0 S3 rfl vL))) ?_;by_cases h6:nx<0
 ·refine zN 38 ?_;exact ⟨gZ (Db oQ).symm,S3.low⟩
 refine zN 4 ?_;refine vg (aj rfl rfl (aC (St.cl 0 S3 rfl vL))) ?_;by_cases h7:1073741824<nx
 ·refine zN 33 ?_;exact ⟨gZ (Db oQ).symm,S3.low⟩
 refine zN 4 ?_;refine vg (aj rfl rfl (aC (St.cl 0 S3 rfl vM))) ?_;by_cases h8:gv<0
 ·refine zN 28 ?_;exact ⟨gZ (Db oQ).symm,S3.low⟩
 refine zN 4 ?_;refine vg (aj rfl rfl (aC (St.cl 0 S3 rfl vM))) ?_;by_cases h9:1073741824<gv
 ·refine zN 23 ?_;exact ⟨gZ (Db oQ).symm,S3.low⟩
 refine zN 4 ?_;refine vg (aj rfl rfl (aC (St.cl 0 S3 rfl jT))) ?_;refine zN 2 ?_;refine vg (aj rfl rfl (aC (St.cl 0 S3 rfl kX))) ?_;refine zQ ?_;refine vg (v:=iV ((rs.length+ls.length:Nat):Int)) fJ ?_;by_cases h10:500< ((rs.length+ls.length:Nat):Int)
 ·refine zN 13 ?_;exact ⟨gZ (Db oQ).symm,S3.low⟩
 refine zN 11 ?_;refine vv (aj rfl rfl (cZ (cs:=(W.cells)) (St.rg 0 S3 rfl (Qg)))) ?_;refine zN 4 ?_;refine dN (X:=Nat) (λxv=>[(1,pV b1 0),(2,iV 0),(51,.agg ((W.cells).toArray)),(52,iV ((xv:Nat):Int))]) (λxv wr=>(xv<=4)/\(∀ j,j<xv->dJ (W.at j)=0)/\St w.heap.size w wr [.blk b1 (bI ep nx gv (.slice A1 rs.length c1) (.slice A2 ls.length c2) W) 47,.rd 2 A1 rs.length ((rs).flatMap eH.cells),.rd 4 A2 ls.length ((ls).flatMap Ls.cells)]) (λxv=>4-xv) (0) ?_ ?_ ?_
 ·exact ⟨Nat.zero_le _,λj hj=>absurd hj (Nat.not_lt_zero _),S3⟩
 ·exact ji
 rintro k GI ⟨anO,Me,l5⟩
 try dsimp only at anO Me l5
 refine aZ (l':=[(1,pV b1 0),(2,iV 0),(51,.agg ((W.cells).toArray)),(52,iV ((k:Nat):Int))]) ji (aH (ay ?_));by_cases h15:((k:Nat):Int)<4
 ·refine zN 11 ?_;refine vv (v:= .agg (((W.at k).cells).toArray)) (ajx rfl rfl rfl (X6 W k oQ _)) ?_;refine gq l5 anN ?_;intro b16 Lb jc;refine stA 0 jc kQ ?_ (h1:=I7 _);intro FX mM;refine zN 5 ?_;refine cab eQ mM (FQ (W.at k) _) ?_;intro DW iX;refine zN 6 ?_;by_cases QW:dJ (W.at k)=0
  ·refine zN 8 ?_;refine vv (v:=iV ((k+1:Nat):Int)) fJ ?_;refine zN 2 ?_;have jE:=iX.aP [0];refine aM (k+1) ?_ ji (by first | omega | (dsimp only;omega));exact ⟨oQ,(λj hj=>(Nat.lt_succ_iff_lt_or_eq.1 hj).elim (λh=>Me j h) (λh=>by rw [h];exact QW)),jE⟩
  refine zN 17 ?_;refine ⟨gZ ?_,iX.low⟩;rw [aqQ (j:=k) oQ QW];exact (akK _).resolve_left QW
 refine zN 12 ?_;refine XK (k:=3) l5 (wn rfl) rfl rfl rfl ?_;intro b26 MW qy;have azX:Ap W:=λj hj=>Me j oQ;refine zN 12 ?_;refine vv (aj rfl rfl (aC (St.cl 1 qy rfl jT))) ?_;refine zN 5 ?_;refine dN (X:=Nat×Int) (λxv=>[(1,pV b1 0),(2,iV 0),(6,.map (some b26)),(7,iV xv.2),(63,.slice A1 rs.length c1),(64,iV ((rs.length:Nat):Int)),(65,iV ((xv.1:Nat):Int))]) (λxv wr=>(xv.1<=rs.length)/\(jU nx (-1) rs=jU nx xv.2 (rs.drop xv.1))/\St w.heap.size w wr [.loc b26 (L6 Tryz.prog 3 ((rs.take xv.1).map (·.no))),.blk b1 (bI ep nx gv (.slice A1 rs.length c1) (.slice A2 ls.length c2) W) 47,.rd 2 A1 rs.length ((rs).flatMap eH.cells),.rd 4 A2 ls.length ((ls).flatMap Ls.cells)]) (λxv=>rs.length-xv.1) (0,-1) ?_ ?_ ?_
 ·exact ⟨Nat.zero_le _,rfl,qy⟩
 ·exact tN
 rintro ⟨k,p⟩ SS ⟨EZ,yc,kV⟩
 try dsimp only at EZ yc kV
 refine aZ (l':=[(1,pV b1 0),(2,iV 0),(6,.map (some b26)),(7,iV p),(63,.slice A1 rs.length c1),(64,iV ((rs.length:Nat):Int)),(65,iV ((k:Nat):Int))]) tN (aH (ay ?_));by_cases h34:((k:Nat):Int)< ((rs.length:Nat):Int)
 ·refine zN 11 ?_;obtain ⟨b35,o36,rfl⟩:=Rd.addr (St.rd 2 kV rfl) oQ;obtain ⟨x37,hx38⟩:=DT k (St.rd 2 kV rfl) oQ;refine vv (jf k) ?_;refine vv (aj rfl rfl (cZ (cs:=eH.cells x37) (Rd.uq (St.rd 2 kV rfl) (λ_ _ h=>aW (enc:=eH.cells) (sz:=2) (λ_=>rfl) hx38 h)))) ?_;refine gq kV azS ?_;intro b39 w40 JL;refine sa 0 JL kQ ?_;intro VJ tT;refine zN 7 ?_;refine dF eQ (DV ep nx gv _ _ W x37 _) ?_;rintro _ QX ⟨rfl,azY⟩;refine ⟨_,rfl,?_⟩;have nX:=tT.on azY
  cases WG:(rC nx x37)
  ·refine zN 23 ?_;exact ⟨gZ (Aq λh=>by rw [yc,Kj hx38,WG] at h;exact absurd h.2.1 iQ).symm,nX.low⟩
  have aGc:=xH WG;refine zN 5 ?_;by_cases h49:p<x37.no
  ·refine zN 18 ?_;refine vv (v:= .agg #[]) yz ?_;refine NT (z:=x37.no) 1 nX (wn rfl) rfl rfl rfl rfl rfl rfl Tryz.underlying3 Tryz.underlying153 oQ (by simp [maxLen];omega) ?_;intro VK uX;rw [Kk (f:=λm:eH=>m.no) hx38] at uX;refine zN 4 ?_;refine vv (v:=iV ((k+1:Nat):Int)) fJ ?_;refine zN 2 ?_;have zP:=uX.aP [0];refine aM (k+1,x37.no) ?_ tN (by first | omega | (dsimp only;omega));exact ⟨uQ,(by dsimp only;rw [yc,Kj hx38,WG,decide_eq_true h49];rfl),zP⟩
  refine zN 18 ?_;exact ⟨gZ (Aq λh=>by rw [yc,Kj hx38,decide_eq_false h49] at h;exact absurd h.2.1 iQ).symm,nX.low⟩
 refine zN 19 ?_;refine vv (aj rfl rfl (aC (St.cl 1 kV rfl kX))) ?_;refine zN 5 ?_;have azZ:jU nx (-1) rs=true:=by rw [yc,List.drop_of_length_le oQ];rfl
 have uY:=kV;rw [List.take_of_length_le (show rs.length<=k by omega)] at uY;rw [<-List.append_nil (rs.map (·.no))] at uY;refine dN (X:=Nat×Int) (λxv=>[(1,pV b1 0),(2,iV 0),(6,.map (some b26)),(7,iV xv.2),(87,.slice A2 ls.length c2),(88,iV ((ls.length:Nat):Int)),(89,iV ((xv.1:Nat):Int))]) (λxv wr=>(xv.1<=ls.length)/\(lI ep nx gv (-1) ls=lI ep nx gv xv.2 (ls.drop xv.1))/\St w.heap.size w wr [.loc b26 (L6 Tryz.prog 3 (rs.map (·.no)++(ls.take xv.1).map (·.msg.no))),.blk b1 (bI ep nx gv (.slice A1 rs.length c1) (.slice A2 ls.length c2) W) 47,.rd 2 A1 rs.length ((rs).flatMap eH.cells),.rd 4 A2 ls.length ((ls).flatMap Ls.cells)]) (λxv=>ls.length-xv.1) (0,-1) ?_ ?_ ?_
 ·exact ⟨Nat.zero_le _,rfl,uY⟩
 ·exact tN
 rintro ⟨k,p⟩ w56 ⟨az0,RZ,qW⟩
 try dsimp only at az0 RZ qW
 refine aZ (l':=[(1,pV b1 0),(2,iV 0),(6,.map (some b26)),(7,iV p),(87,.slice A2 ls.length c2),(88,iV ((ls.length:Nat):Int)),(89,iV ((k:Nat):Int))]) tN (aH (ay ?_));by_cases h60:((k:Nat):Int)< ((ls.length:Nat):Int)
 ·refine zN 11 ?_;obtain ⟨JM,o62,rfl⟩:=Rd.addr (St.rd 3 qW rfl) oQ;obtain ⟨Zy,R4⟩:=DT k (St.rd 3 qW rfl) oQ;refine vv (jf k) ?_;refine vv (aj rfl rfl (cZ (cs:=Ls.cells Zy) (Rd.uq (St.rd 3 qW rfl) (λ_ _ h=>aW (enc:=Ls.cells) (sz:=4) (λ_=>rfl) R4 h)))) ?_;refine gq qW asS ?_;intro b65 VL uD;refine sa 0 uD kQ ?_;intro w68 uE;refine zN 7 ?_;refine vv (aj rfl rfl (cZ (cs:=[iV Zy.msg.no,iV Zy.msg.body]) (St.rg 0 uE rfl (mU (x:=2) (m:=2) rfl)))) ?_;refine dF eQ (DV ep nx gv _ _ W Zy.msg _) ?_;rintro _ Zz ⟨rfl,az1⟩;refine ⟨_,rfl,?_⟩;have lu:=uE.on az1
  cases anP:(rC nx Zy.msg)
  ·refine zN 40 ?_;exact ⟨gZ (Aq λh=>by rw [RZ,Eu R4,Md,anP] at h;exact absurd h.2.2.1 iQ).symm,lu.low⟩
  have aGd:=xH anP;refine zN 6 ?_;refine vg (aj rfl rfl (aC (St.cl 2 lu rfl tq))) ?_;by_cases h75:Zy.eF=ep
  ·refine zN 7 ?_;by_cases h76:p<Zy.hno
   ·refine zN 7 ?_;refine vg (aj rfl rfl (aC (St.cl 2 lu rfl vM))) ?_;by_cases h77:Zy.hno<gv
    ·refine zN 20 ?_;refine vv (v:= .agg #[]) yz ?_;refine NT (z:=Zy.msg.no) 1 lu (wn rfl) rfl rfl rfl rfl rfl rfl Tryz.underlying3 Tryz.underlying153 oQ (by simp [maxLen];omega) ?_;intro w78 Ci;rw [List.append_assoc,Kk (f:=λm:Ls=>m.msg.no) R4] at Ci;refine zN 4 ?_;refine vv (v:=iV ((k+1:Nat):Int)) fJ ?_;refine zN 2 ?_;have tV:=Ci.aP [0];refine aM (k+1,Zy.hno) ?_ tN (by first | omega | (dsimp only;omega));exact ⟨uQ,(by dsimp only;rw [RZ,Eu R4,Md,anP,decide_eq_true ⟨by omega,by omega,by omega⟩];rfl),tV⟩
    refine zN 18 ?_;exact ⟨gZ (Aq λh=>by rw [RZ,Eu R4,Md,decide_eq_false (λh1=>h77 (h1.2.2)),Bool.and_false] at h;exact absurd h.2.2.1 iQ).symm,lu.low⟩
   refine zN 26 ?_;exact ⟨gZ (Aq λh=>by rw [RZ,Eu R4,Md,decide_eq_false (λh1=>h76 (h1.2.1)),Bool.and_false] at h;exact absurd h.2.2.1 iQ).symm,lu.low⟩
  refine zN 33 ?_;exact ⟨gZ (Aq λh=>by rw [RZ,Eu R4,Md,decide_eq_false (λh1=>h75 (h1.1)),Bool.and_false] at h;exact absurd h.2.2.1 iQ).symm,lu.low⟩
 refine zN 14 ?_;have az2:lI ep nx gv (-1) ls=true:=by rw [RZ,List.drop_of_length_le oQ];rfl
 have DX:=qW;rw [List.take_of_length_le (show ls.length<=k by omega)] at DX;change St _ _ _ [.loc b26 (L6 Tryz.prog 3 (nP rs ls)),.blk b1 (bI ep nx gv (.slice A1 rs.length c1) (.slice A2 ls.length c2) W) 47,.rd 2 A1 rs.length ((rs).flatMap eH.cells),.rd 4 A2 ls.length ((ls).flatMap Ls.cells)] at DX;obtain ⟨m84,az3,az4,anQ⟩:=afS 0 DX rfl Tryz.underlying153 3;have hnl:(nP rs ls).length=rs.length+ls.length:=by simp [nP]
 rw [hnl] at az4 anQ;refine vv (v:=iV ((m84:Nat):Int)) (qR (vs:=[.map (some b26)]) rfl tU1 az3) ?_;refine zQ ?_;refine vv (aj rfl rfl (aC (St.cl 1 DX rfl jT))) ?_;refine zN 2 ?_;refine vv (aj rfl rfl (aC (St.cl 1 DX rfl kX))) ?_;refine zQ ?_;refine vv (v:=iV ((rs.length+ls.length:Nat):Int)) fJ ?_;by_cases h88:((m84:Nat):Int)< ((rs.length+ls.length:Nat):Int)
 ·refine zN 12 ?_;exact ⟨gZ (Aq λh=>anQ.1 oQ h.2.2.2).symm,DX.low⟩
 refine zN 13 ?_;exact ⟨gZ (awm (by unfold RY;omega) azX azZ az2 (Classical.not_not.1 λh=>h88 (by have:=anQ.2 h;omega))).symm,DX.low⟩
theorem Nj {B g k c1 c2:Nat} {w0 w:World} {fs:List Fact} {A1 A2:Option Addr} {rs:List eH} {ls:List Ls} {W:jO} {ep nx gv kd id bd he hn:Int} (S:St B w0 w (.blk g (bI ep nx gv (.slice A1 rs.length c1) (.slice A2 ls.length c2) W) 120:: .own 87 2 (.slice A1 rs.length c1) rs.length ((rs).flatMap eH.cells):: .own 89 4 (.slice A2 ls.length c2) ls.length ((ls).flatMap Ls.cells)::fs)) (hk:k<4) (hlen:rs.length+ls.length<=500) (hnx:0<=nx/\nx<=1073741824) (hgv:0<=gv/\gv<=1073741824) (eF:0<=ep/\ep<=1048576):
    Calls Tryz.prog 29 #[pV g 0,.agg #[iV kd,iV ((k:Nat):Int),iV id,iV bd,iV he,iV hn]] w (EX B w0 g fs (AL ⟨ep,nx,gv,rs,ls,W⟩ k id bd)):=by
 refine gu 94 Tryz.func29 ?_;refine cw [0,1] ?_;refine zN 2 ?_;refine iH S ?_;intro b1 w2 S3;refine gq S3 sZ ?_;intro b4 w5 S6;refine zN 3 ?_;refine mh (X:=Nat) (λxv=>[(0,pV g 0),(3,pV b1 0),(4,pV b4 0),(5,.bool false),(6,pV xv 0),(7,.bool ((iD (W.at k) id).2.1)),(8,iV ((iD (W.at k) id).2.2))]) (λxv wr=>St B w0 wr ((.blk xv (((iD (W.at k) id).1.cells).toArray) 44)::(.blk b4 #[iV 0,iV 0,iV 0,iV 0] 67)::(.blk b1 #[iV kd,iV ((k:Nat):Int),iV id,iV bd,iV he,iV hn] 65)::(.blk g (bI ep nx gv (.slice A1 rs.length c1) (.slice A2 ls.length c2) W) 120)::(.own 87 2 (.slice A1 rs.length c1) rs.length ((rs).flatMap eH.cells))::(.own 89 4 (.slice A2 ls.length c2) ls.length ((ls).flatMap Ls.cells))::fs)) ?_ ?_
 ·have S7:=S6.drew;refine aN 19 S7 [] ?_;refine aL 6 ?_;refine ak (v:=pV g (5+k*9)) 6 rfl S7 (λ_ _=>(aR rfl rfl rfl (fH k Tryz.underlying45 kQ rfl hk))) ?_;refine ak (v:= .agg (((W.at k).cells).toArray)) 7 rfl S7 (λ_ anR=>(aj rfl rfl (cZ (cs:=(W.at k).cells) (St.rg 2 anR rfl (akL hk))))) ?_;refine aL 2 ?_;refine gH (n:=8) (r:=10) (s:=15) kQ ?_ ?_
  ·refine jI 10 rfl eQ (Hw (W.at k) id _) ?_;rintro _ MX ⟨rfl,anS⟩;refine ⟨_,rfl,?_⟩;have mq:=S7.on anS;refine aL 5 ?_;refine aU 15 ?_;refine lH 15 rfl mq anN ?_;intro SV Om tX;refine cO ?_;refine aU 16 ?_;refine snA 16 rfl 0 tX kQ ?_ (h1:=I7 _);intro VN qH;refine aL 4 ?_;refine bX SV ?_ tN;exact qH
  refine lH 15 rfl S7 anN ?_;intro b32 ZA qo;refine cO ?_;refine aU 10 ?_;refine jI 10 rfl eQ (Hw (W.at k) id _) ?_;rintro _ VO ⟨rfl,anT⟩;refine ⟨_,rfl,?_⟩;have nQ:=qo.on anT;refine aL 5 ?_;refine aU 16 ?_;refine snA 16 rfl 0 nQ kQ ?_ (h1:=I7 _);intro VJ tT;refine aL 4 ?_;refine bX b32 ?_ tN;exact tT
 rintro b46 w47 vO
 try dsimp only at vO
 refine aZ (l':=[(0,pV g 0),(3,pV b1 0),(4,pV b4 0),(5,.bool false),(6,pV b46 0),(7,.bool ((iD (W.at k) id).2.1)),(8,iV ((iD (W.at k) id).2.2))]) tN (aH (EO (aH (ay (vm ?_)))));by_cases h1:(iD (W.at k) id).2.2=0
 ·refine zN 8 ?_
  cases h2:(iD (W.at k) id).2.1
  ·refine zN 8 ?_;refine sa 1 vO kQ ?_;intro VP oU;refine zN 7 ?_;have uX:=oU.aP [2,1,0];have lU:=uX.bD 1 rfl;have zP:=lU.bD 2 rfl;rw [akN h1 h2];refine ⟨rfl,A1,c1,A2,c2,?_⟩;dsimp only;exact zP
  refine zN 6 ?_;refine bV vO mixed kQ ?_;refine zN 4 ?_;refine uv (v:= .slice A1 rs.length c1) (λ_ az5=>(aj rfl rfl (aC (St.cl 3 az5 rfl jT)))) ?_;refine zN 5 ?_;refine uv (v:= .slice A2 ls.length c2) (λ_ aaZ=>(aj rfl rfl (aC (St.cl 3 aaZ rfl kX)))) ?_;refine zQ ?_;refine uv (v:=iV ((rs.length+ls.length:Nat):Int)) (λ_ _=>fJ) ?_;by_cases h3:rs.length+ls.length=500
  ·refine zN 10 ?_;refine dh λw71 Bb=>?_;refine zN 4 ?_;refine vv (v:= .agg #[iV 14,iV 0,iV 0,iV 0]) gD ?_;refine sa 1 Bb kQ ?_;intro w73 Lc;refine zN 7 ?_;have Ew:=Lc.aP [2,1,0];have MZ:=Ew.bD 1 rfl;have DY:=MZ.bD 2 rfl;rw [SN h1 h2 (.inl h3)];refine ⟨rfl,A1,c1,A2,c2,?_⟩;dsimp only;exact DY
  refine zN 6 ?_;refine ug (v:=iV nx) (λ_ az6=>(aj rfl rfl (aC (St.cl 3 az6 rfl vL)))) ?_;by_cases h4:nx=1073741824
  ·refine zN 3 ?_;refine dh λw88 GJ=>?_;refine zN 4 ?_;refine vv (v:= .agg #[iV 14,iV 0,iV 0,iV 0]) gD ?_;refine sa 1 GJ kQ ?_;intro w90 M0;refine zN 7 ?_;have zR:=M0.aP [2,1,0];have DZ:=zR.bD 1 rfl;have FY:=DZ.bD 2 rfl;rw [SN h1 h2 (.inr h4)];refine ⟨rfl,A1,c1,A2,c2,?_⟩;dsimp only;exact FY
  refine zN 3 ?_;refine dh λw98 S99=>?_;refine zN 6 ?_;have sI:=S99.drew;refine aN 9 sI [3] ?_;refine aL 7 ?_;refine ak (v:=pV g (5+k*9)) 7 rfl (St.del 3 sI) (λ_ _=>(aR rfl rfl rfl (fH k Tryz.underlying45 kQ rfl hk))) ?_;refine aU 8 ?_;refine uw (i:=8) rfl rfl (cs:=((iD (W.at k) id).1.cells).toArray) (row':=bI ep nx gv (.slice A1 rs.length c1) (.slice A2 ls.length c2) (W.put k (iD (W.at k) id).1)) (fs':=(.blk b46 (((iD (W.at k) id).1.cells).toArray) 44)::(.blk b4 #[iV 0,iV 0,iV 0,iV 0] 67)::(.blk b1 #[iV kd,iV ((k:Nat):Int),iV id,iV bd,iV he,iV hn] 65)::(.blk g (bI ep nx gv (.slice A1 rs.length c1) (.slice A2 ls.length c2) (W.put k (iD (W.at k) id).1)) 120)::(.own 87 2 (.slice A1 rs.length c1) rs.length ((rs).flatMap eH.cells))::(.own 89 4 (.slice A2 ls.length c2) ls.length ((ls).flatMap Ls.cells))::fs) 3 sI (wn rfl) rfl rfl rfl rfl rfl rfl amq rfl (I7 _) (by rw [x9];omega) (akO hk) rfl ?_;intro WH qb;refine aL 2 ?_;refine zN 2 ?_;have Dq:=qb.drew;refine fC 20 16 Dq [4] ?_;iterate 5 refine gU ?_
  refine gk (v:= .slice A1 rs.length c1) 5 rfl (St.del 4 Dq) (λ_ awo=>(aj rfl rfl (aC (St.cl 3 awo rfl jT)))) ?_;iterate 4 refine gU ?_
  refine gk (v:=iV nx) 10 rfl (St.del 4 Dq) (λ_ awp=>(aj rfl rfl (aC (St.cl 3 awp rfl vL)))) ?_;iterate 2 refine gU ?_
  refine gk (v:= .agg #[iV nx,iV bd]) 13 rfl (St.del 4 Dq) (λ_ _=>gD) ?_;refine fq (m:=5) (r:=14) kQ ?_;refine mo (i:=14) rfl rfl (V:=λb=> .slice (aD b 0) 1 1) (row:= #[iV nx,iV bd]) (t:=87) Dq (wn rfl) rfl rfl (aS (vs:=[(0,.agg #[iV nx,iV bd])]) rfl xU kQ) ?_;intro aJh aa1 ze;refine gU ?_;refine fq (m:=4) (r:=15) kQ ?_;refine kN (i:=15) rfl rfl (news:=[iV nx,iV bd]) (xs':=(rs++[(⟨nx,bd⟩:eH)]).flatMap eH.cells) 5 ze (wn rfl) rfl rfl rfl rfl rfl rfl (St.lD (xs:=[iV nx,iV bd]) 0 ze rfl rfl rfl) Tryz.underlying40 VE rfl dQ (bM rfl) lQ oQ (iU (enc:=eH.cells) rfl rfl) ?_;intro az7 c130 ahZ aGe aGf zf;refine gU ?_;refine eU kQ rfl rfl rfl ?_;refine zN 3 ?_;refine jD 4 zf kQ ?_ (hs:=by exact I5);intro anU zh;refine zQ ?_;refine iY ?_;refine zN 7 ?_;refine vv (aj rfl rfl (aC (St.cl 4 zh rfl vL))) ?_;refine vv (v:=iV (nx+1)) fJ ?_;refine zN 3 ?_;refine jD 4 zh kQ ?_ (hs:=by exact akF);intro aa2 zi;refine zN 5 ?_;refine sa 2 zi kQ ?_;intro az8 Dr;refine zN 5 ?_;have aa3:=Dr.aP [3,2,1,0];have Ja:=aa3.bD 1 rfl;have WI:=Ja.bD 2 rfl;rw [aqR h1 h2 (λh=>h.elim h3 h4)];have hln:=(by simp:(rs++[(⟨nx,bd⟩:eH)]).length=rs.length+1);refine ⟨rfl,az7,c130,A2,c2,?_⟩;dsimp only;rw [hln];exact WI
 refine zN 8 ?_;refine vv (v:= .agg #[iV ((iD (W.at k) id).2.2),iV 0,iV 0,iV 0]) gD ?_;refine sa 1 vO kQ ?_;intro ah0 Mf;refine zN 7 ?_;have R6:=Mf.aP [2,1,0];have R7:=R6.bD 1 rfl;have Dt:=R7.bD 2 rfl;rw [akM h1];refine ⟨rfl,A1,c1,A2,c2,?_⟩;dsimp only;exact Dt
theorem dY {w:World} {base:Nat} {e:TypeId} {size:Nat} {A:Option Addr} {n c:Nat} {xs:List Value} (h:w.ownsRow base e size (.slice A n c) n xs):n<=c/\c<=maxLen:=by
 obtain ⟨A',c',e1,h1,h2⟩:=mJ h
 cases e1;exact ⟨h1,h2⟩
theorem ZB {α:Type} {enc:α->List Value} {sz:Nat} (hsz: ∀ x,(enc x).length=sz): ∀ (k:Nat) (l:List α),(l.flatMap enc).drop (k*sz)=(l.drop k).flatMap enc
 | 0,l=>by simp
 | k+1,[]=>by simp
 | k+1,x::l=>by rw [List.flatMap_cons,Nat.succ_mul,Nat.add_comm,<-List.drop_drop,List.drop_left' (hsz x),ZB hsz k l];rfl
theorem agq {w:World} {B:Nat} {A:Option Addr} {rs:List eH} (h:Rd w B 2 A (rs.length-1) (((rs.flatMap eH.cells).drop (1*2)).take ((rs.length-1)*2))):Rd w B 2 A (rs.length-1) ((rs.drop 1).flatMap eH.cells):=by
 rw [ZB (enc:=eH.cells) (sz:=2) (λ_=>rfl),List.take_of_length_le (by rw [gL (sz:=2) (λ_=>rfl),List.length_drop];exact Nat.le_refl _)] at h;exact h
theorem Nk {B g k c1 c2:Nat} {w0 w:World} {fs:List Fact} {A1 A2:Option Addr} {rs:List eH} {ls:List Ls} {W:jO} {ep nx gv kd id bd he hn:Int} (S:St B w0 w (.blk g (bI ep nx gv (.slice A1 rs.length c1) (.slice A2 ls.length c2) W) 120:: .own 87 2 (.slice A1 rs.length c1) rs.length ((rs).flatMap eH.cells):: .own 89 4 (.slice A2 ls.length c2) ls.length ((ls).flatMap Ls.cells)::fs)) (hk:k<4) (hlen:rs.length+ls.length<=500) (hnx:0<=nx/\nx<=1073741824) (hgv:0<=gv/\gv<=1073741824) (eF:0<=ep/\ep<=1048576):
    Calls Tryz.prog 30 #[pV g 0,.agg #[iV kd,iV ((k:Nat):Int),iV id,iV bd,iV he,iV hn]] w (EX B w0 g fs (EW ⟨ep,nx,gv,rs,ls,W⟩)):=by
 refine gu 80 Tryz.func30 ?_;refine cw [0,1] ?_;refine zN 2 ?_;refine iH S ?_;intro b1 w2 S3;refine gq S3 sZ ?_;intro b4 w5 S6;refine zN 11 ?_;refine vv (aj rfl rfl (aC (St.cl 2 S6 rfl jT))) ?_;refine zQ ?_;by_cases h1:rs.length=0
 ·refine zN 7 ?_;refine vv (v:= .agg #[iV 10,iV 0,iV 0,iV 0]) gD ?_;refine sa 0 S6 kQ ?_;intro w7 S8;refine zN 7 ?_;have S9:=S8.aP [1,0];have qx:=S9.bD 1 rfl;have qI:=qx.bD 2 rfl;rw [agi h1];refine ⟨rfl,A1,c1,A2,c2,?_⟩;dsimp only;exact qI
 refine zN 11 ?_;refine vv (aj rfl rfl (aC (St.cl 2 S6 rfl vM))) ?_;by_cases h2:gv=1073741824
 ·refine zN 7 ?_;refine vv (v:= .agg #[iV 14,iV 0,iV 0,iV 0]) gD ?_;refine sa 0 S6 kQ ?_;intro ZC uZ;refine zN 7 ?_;have kD:=uZ.aP [1,0];have iG:=kD.bD 1 rfl;have lV:=iG.bD 2 rfl;rw [agj h1 h2];refine ⟨rfl,A1,c1,A2,c2,?_⟩;dsimp only;exact lV
 refine zN 9 ?_;have kP:=S6.drew;refine fC 21 20 kP [] ?_;iterate 4 refine gU ?_
 refine gk (v:=iV ep) 4 rfl kP (λ_ GK=>(aj rfl rfl (aC (St.cl 2 GK rfl tq)))) ?_;iterate 4 refine gU ?_
 refine gk (v:=iV gv) 9 rfl kP (λ_ az9=>(aj rfl rfl (aC (St.cl 2 az9 rfl vM)))) ?_;refine gk (v:= .agg #[iV ep,iV gv]) 10 rfl kP (λ_ _=>gD) ?_;iterate 4 refine gU ?_
 refine gk (v:= .slice A1 rs.length c1) 15 rfl kP (λ_ anV=>(aj rfl rfl (aC (St.cl 2 anV rfl jT)))) ?_;obtain ⟨b34,o35,rfl⟩:=Rd.addr (St.ord 3 kP rfl) oQ;obtain ⟨Ld,asZ⟩:=DT 0 (St.ord 3 kP rfl) oQ;refine gk 16 rfl kP (λ_ _=>jf 0) ?_;refine gk (v:= .agg #[iV Ld.no,iV Ld.body]) 17 rfl kP (λ_ aAa=>(aj rfl rfl (cZ (cs:=eH.cells Ld) (Rd.uq (St.ord 3 aAa rfl) (λ_ _ h=>aW (enc:=eH.cells) (sz:=2) (λ_=>rfl) asZ h))))) ?_;refine gk (v:= .agg #[iV ep,iV gv,iV Ld.no,iV Ld.body]) 18 rfl kP (λ_ _=>gD) ?_;refine fq (m:=1) (r:=19) kQ ?_;refine mo (i:=19) rfl rfl (V:=λb=>pV b 0) (row:= #[iV 0,iV 0,iV 0,iV 0]) (t:=89) kP (wn rfl) rfl rfl (dO rfl (Tryz.zeroValue89 _) rfl) ?_;intro b41 VJ tT;refine gU ?_;refine eU kQ rfl rfl rfl ?_;refine sa 0 tT kQ ?_;intro QX nX;refine zQ ?_;refine iY ?_;refine zN 8 ?_;refine vv (aj rfl rfl (aC (St.cl 3 nX rfl jT))) ?_;have hcp:=dY (nX.own 4 rfl);obtain ⟨A46,aAb,aAc,aAd⟩:=Cc (P:=Tryz.prog) (t:=40) (s:=2) (A:=(aD b34 o35)) (n:=rs.length) (c:=c1) (lo:=some (iV 1)) (hi:=none) (mx:=none) (l:=1) (k:=rs.length) (q:=c1) Tryz.underlying40 kQ (ahX 1 rfl oQ) oQ (Nat.le_refl _) oQ;refine vv (v:= .slice A46 (rs.length-1) (c1-1)) (jR rfl rfl (jo rfl) nO nO (aAb _)) ?_;have oU:=nX.seal 4 rfl (agq (aAc _ _ _ (St.ord 4 nX rfl))) (λa h=>aAd a h);refine zN 3 ?_;refine jD 3 oU kQ ?_ (hs:=by exact I5);intro SX lU;refine zN 3 ?_;have zP:=lU.drew;refine fC 13 9 zP [5] ?_;iterate 5 refine gU ?_
 refine gk (v:= .slice A2 ls.length c2) 5 rfl (St.del 5 zP) (λ_ aa4=>(aj rfl rfl (aC (St.cl 3 aa4 rfl kX)))) ?_;refine gU ?_;refine fq (m:=5) (r:=7) kQ ?_;refine mo (i:=7) rfl rfl (V:=λb=> .slice (aD b 0) 1 1) (row:= #[iV ep,iV gv,iV Ld.no,iV Ld.body]) (t:=89) zP (wn rfl) rfl rfl (aS (vs:=[(0,.agg #[iV ep,iV gv,iV Ld.no,iV Ld.body])]) rfl xU kQ) ?_;intro JM VQ vP;refine gU ?_;refine fq (m:=4) (r:=8) kQ ?_;refine kN (i:=8) rfl rfl (news:=[iV ep,iV gv,iV Ld.no,iV Ld.body]) (xs':=(ls++[(⟨ep,gv,Ld⟩:Ls)]).flatMap Ls.cells) 6 vP (wn rfl) rfl rfl rfl rfl rfl rfl (St.lD (xs:=[iV ep,iV gv,iV Ld.no,iV Ld.body]) 0 vP rfl rfl rfl) Tryz.underlying41 aes rfl dQ (bM rfl) lQ oQ (iU (enc:=Ls.cells) rfl rfl) ?_;intro A64 c65 VL aJi aJj uD;refine gU ?_;refine eU kQ rfl rfl rfl ?_;refine zN 3 ?_;refine jD 4 uD kQ ?_ (hs:=by exact I6);intro Zz lu;refine zQ ?_;refine iY ?_;refine zN 7 ?_;refine vv (aj rfl rfl (aC (St.cl 4 lu rfl vM))) ?_;refine vv (v:=iV (gv+1)) fJ ?_;refine zN 3 ?_;refine jD 4 lu kQ ?_ (hs:=by exact Zt);intro w72 tY;refine zN 5 ?_;refine vv (aj rfl rfl (cZ (cs:=[iV ep,iV gv]) (St.rg 1 tY rfl (mU (x:=0) (m:=2) rfl)))) ?_;refine zN 3 ?_;refine vv (v:= .agg #[iV 0,iV ep,iV gv,iV Ld.body]) gD ?_;refine sa 2 tY kQ ?_;intro w74 Ew;refine zN 5 ?_;have MZ:=Ew.aP [3,2,1,0];have DY:=MZ.bD 2 rfl;have hl1:(rs.drop 1).length=rs.length-1:=by simp
 have hl2:(ls++[(⟨ep,gv,Ld⟩:Ls)]).length=ls.length+1:=by simp
 rw [aqS asZ h2];refine ⟨rfl,A46,(c1-1),A64,c65,?_⟩;dsimp only;rw [hl1,hl2];exact DY
end
section
abbrev bR (b:bn) (A:Option Addr) (c:Nat):Array Value:= #[iV b.role,iV b.ep,iV b.fr,iV b.tg,iV b.rd,.slice A b.evs.length c]
abbrev zB:Array Value:= #[iV 0,iV 0,iV 0,iV 0,iV 0,.slice none 0 0]
abbrev rR (k q e p:Int) (x:Ev):Array Value:= #[iV k,iV q,iV e,iV p,iV x.kind,iV x.producer,iV x.id,iV x.body,iV x.aG,iV x.hno]
end
section
open ChangeShapes WideShapes RowKit
theorem agr:flat tP 30 63=some [.at_ (.int .i64),.at_ (.int .i64)]:=kQ
theorem ags:EP tP 30 63=true:=kQ
theorem akS (xs:List Value):mkV tP 63 xs= .agg xs.toArray:=by
 unfold mkV;rw [Tryz.underlying63]
theorem UK (a b c d:Int) (w:World):(binOp .eql 63 (.agg #[iV a,iV b]) (.agg #[iV c,iV d])).run tP w= .ok (.bool (a==c&&b==d)) w:=by
 have h:=DL (P:=tP) w agr ags akS (xs:=[iV a,iV b]) (ys:=[iV c,iV d]) ⟨⟨_,rfl⟩,⟨_,rfl⟩,trivial⟩ ⟨⟨_,rfl⟩,⟨_,rfl⟩,trivial⟩;rw [show dP [iV a,iV b] [iV c,iV d]=(a==c&&b==d) by simp [dP,rT]] at h;exact h
def zk (he hn:Int) (x:Ls):Bool:=x.eF==he&&x.hno==hn
def QY (he hn:Int) (ls:List Ls):Int:=match ls.findIdx? (zk he hn) with
 | some k=>(k:Int)
 | none=> -1
theorem Le {he hn:Int} {ls:List Ls} (h: ∀ (j:Nat) (y:Ls),j<ls.length->ls[j]? =some y->zk he hn y=false):QY he hn ls= -1:=by
 unfold QY;rw [List.findIdx?_eq_none_iff.2 (λy hy=>by obtain ⟨j,hj,e⟩:=List.getElem_of_mem hy;exact h j y hj (by rw [List.getElem?_eq_getElem hj,e]))]
theorem SY {he hn:Int} {ls:List Ls} {k:Nat} {x:Ls} (h: ∀ (j:Nat) (y:Ls),j<k->ls[j]? =some y->zk he hn y=false) (hx:ls[k]? =some x) (hm:zk he hn x=true):QY he hn ls=k:=by
 unfold QY;obtain ⟨hk,e⟩:=List.getElem?_eq_some_iff.1 hx;rw [List.findIdx?_eq_some_iff_getElem.2 ⟨hk,by rw [e];exact hm,λj hj=>by rw [h j _ hj (List.getElem?_eq_getElem oQ)];simp⟩]
theorem GL {hn:Int} {ls:List Ls} (h: ∀ x∈ls,¬ x.hno=hn):(ls.filter λx=>decide (x.hno≠hn))=ls:=List.filter_eq_self.2 λx hx=>by simpa using h x hx
theorem agt {hn:Int} {ls:List Ls} {k:Nat} {x:Ls} (hx:ls[k]? =some x) (hm:x.hno=hn) (hu: ∀ (i j:Nat) (a b:Ls),ls[i]? =some a->ls[j]? =some b->a.hno=b.hno->i=j):(ls.filter λx=>decide (x.hno≠hn))=ls.eraseIdx k:=by
 obtain ⟨hk,e⟩:=List.getElem?_eq_some_iff.1 hx;have e1:ls=ls.take k++x::ls.drop (k+1):=by rw [<-e,<-List.drop_eq_getElem_cons hk,List.take_append_drop]
 rw [List.eraseIdx_eq_take_drop_succ]
 conv=>lhs;rw [e1]
 rw [List.filter_append,List.filter_cons,if_neg (by simp [hm])]
 congr 1
 ·refine GL λy hy hyn=>?_;obtain ⟨j,hj,e2⟩:=List.getElem_of_mem hy;rw [List.length_take] at hj;have:=hu j k y x (by rw [List.getElem_take] at e2;rw [<-e2];exact List.getElem?_eq_getElem oQ) hx (by rw [hyn,hm]);omega
 refine GL λy hy hyn=>?_;obtain ⟨j,hj,e2⟩:=List.getElem_of_mem hy;rw [List.length_drop] at hj;have:=hu (k+1+j) k y x (by rw [List.getElem_drop] at e2;rw [<-e2];exact List.getElem?_eq_getElem oQ) hx (by rw [hyn,hm]);omega
theorem Yb (x:Ls) (b:Nat) (he hn:Int) (w:World) (h:Rd w w.heap.size 2 (aD b 4) 1 [iV he,iV hn]):
    Calls tP 55 #[.agg #[iV x.eF,iV x.hno,iV x.msg.no,iV x.msg.body],pV b 0] w (FW w (x.eF==he&&x.hno==hn)):=by
 have S:=(St.start w).bL h;refine gu 9 Tryz.func55 ?_;refine cw [0,1] ?_;refine zN 2 ?_;refine iH S ?_;intro b1 w2 S3;refine zN 6 ?_;refine vv (aj rfl rfl (cZ (cs:=[iV x.eF,iV x.hno]) (St.rg 0 S3 rfl (mU (x:=0) (m:=2) rfl)))) ?_;refine zQ ?_;refine vv (v:= .agg #[iV he,iV hn]) (aj rfl rfl (cZ (cs:=[iV he,iV hn]) (Rd.uq (off:=4) (j:=0) (St.rd 1 S3 rfl) (λi u h=>by rw [Nat.zero_add];exact h)))) ?_;refine vv (v:= .bool (x.eF==he&&x.hno==hn)) (bE rfl rfl rfl (zJ kQ (UK x.eF x.hno he hn _))) ?_;refine zN 5 ?_;exact ⟨rfl,S3.low⟩
theorem UL (A:Option Addr) (c b:Nat) (he hn:Int) (ls:List Ls) (w:World) (h:Rd w w.heap.size 4 A ls.length (ls.flatMap Ls.cells)) (h2:Rd w w.heap.size 2 (aD b 4) 1 [iV he,iV hn]) (hl:ls.length<=500):
    Calls tP 54 #[.slice A ls.length c,.func (.func 55) #[] #[pV b 0]] w (WC w (QY he hn ls)):=by
 have S:=((St.start w).bL h).bL h2;refine gu 19 Tryz.func54 ?_;refine cw [0,1] ?_;refine zN 14 ?_;refine dN (X:=Nat) (λxv=>[(0,.slice A ls.length c),(1,.func (.func 55) #[] #[pV b 0]),(4,iV 0),(7,iV ((ls.length:Nat):Int)),(8,iV ((xv:Nat):Int))]) (λxv wr=>(xv<=ls.length)/\(∀ (j:Nat) (y:Ls),j<xv->ls[j]? =some y->zk he hn y=false)/\St w.heap.size w wr [.rd 2 (aD b 4) 1 [iV he,iV hn],.rd 4 A ls.length ((ls).flatMap Ls.cells)]) (λxv=>ls.length-xv) (0) ?_ ?_ ?_
 ·exact ⟨Nat.zero_le _,λj y hj=>absurd hj (Nat.not_lt_zero _),S⟩
 ·exact vJ
 rintro k w1 ⟨hi3,hi4,S2⟩
 try dsimp only at hi3 hi4 S2
 refine aZ (l':=[(0,.slice A ls.length c),(1,.func (.func 55) #[] #[pV b 0]),(4,iV 0),(7,iV ((ls.length:Nat):Int)),(8,iV ((k:Nat):Int))]) vJ (aH (ay ?_));by_cases h5:((k:Nat):Int)< ((ls.length:Nat):Int)
 ·refine zN 20 ?_;obtain ⟨b6,o7,rfl⟩:=Rd.addr (St.rd 1 S2 rfl) oQ;obtain ⟨x8,VR⟩:=DT k (St.rd 1 S2 rfl) oQ;refine vv (jf k) ?_;refine vv (aj rfl rfl (cZ (cs:=Ls.cells x8) (Rd.uq (St.rd 1 S2 rfl) (λ_ _ h=>aW (enc:=Ls.cells) (sz:=4) (λ_=>rfl) VR h)))) ?_;have HC:=λw h=>Yb x8 b he hn w h
  cases hmt:zk he hn x8
  ·rw [show (x8.eF==he&&x8.hno==hn)=false from hmt] at HC;refine wM eQ (HC _ (St.rd 0 S2 rfl)) ?_;rintro _ ZE ⟨rfl,aAe⟩;refine ⟨_,rfl,?_⟩;have qI:=S2.on aAe;refine zN 7 ?_;refine vv (v:=iV ((k+1:Nat):Int)) fJ ?_;refine zN 2 ?_;refine aM (k+1) ?_ vJ (by first | omega | (dsimp only;omega));exact ⟨oQ,(λj y hj hy=>(Nat.lt_succ_iff_lt_or_eq.1 hj).elim (λh=>hi4 j y h hy) (λh=>by rw [h,VR] at hy;cases hy;exact hmt)),qI⟩
  rw [show (x8.eF==he&&x8.hno==hn)=true from hmt] at HC;refine wM eQ (HC _ (St.rd 0 S2 rfl)) ?_;rintro _ Ey ⟨rfl,ah1⟩;refine ⟨_,rfl,?_⟩;have kD:=S2.on ah1;refine zN 16 ?_;exact ⟨gZ (SY hi4 VR hmt).symm,kD.low⟩
 refine zN 17 ?_;exact ⟨gZ (Le (λj y hj hy=>hi4 j y oQ hy)).symm,S2.low⟩
theorem akT {he hn:Int} {ls:List Ls} (h: ¬ ∃ (k:Nat) (x:Ls),ls[k]? =some x/\zk he hn x=true/\ ∀ (j:Nat) (y:Ls),j<k->ls[j]? =some y->zk he hn y=false): ∀ y∈ls,zk he hn y=false:=by
 intro y hy
 rcases hf:ls.findIdx? (zk he hn) with _ | k
 ·exact List.findIdx?_eq_none_iff.1 hf y hy
 obtain ⟨hk,h1,h2⟩:=List.findIdx?_eq_some_iff_getElem.1 hf;refine absurd ⟨k,ls[k],List.getElem?_eq_getElem hk,h1,λj z hj hz=>?_⟩ h;have:=h2 j hj;obtain ⟨hj',e⟩:=List.getElem?_eq_some_iff.1 hz;rw [e] at this;simpa using this
theorem akU {he hn:Int} {x:Ls} (h:zk he hn x=true):x.hno=hn:=by simp [zk] at h;exact h.2
theorem akV {he hn ep:Int} {x:Ls} (h:x.eF=ep) (h1:he=ep) (h2:x.hno=hn):zk he hn x=true:=by simp [zk,h,h1,h2]
theorem aa5 {B g k c1 c2:Nat} {w0 w:World} {fs:List Fact} {A1 A2:Option Addr} {rs:List eH} {ls:List Ls} {W:jO} {ep nx gv kd id bd he hn:Int} (S:St B w0 w (.blk g (bI ep nx gv (.slice A1 rs.length c1) (.slice A2 ls.length c2) W) 120:: .own 87 2 (.slice A1 rs.length c1) rs.length ((rs).flatMap eH.cells):: .own 89 4 (.slice A2 ls.length c2) ls.length ((ls).flatMap Ls.cells)::fs)) (hk:k<4) (hlen:rs.length+ls.length<=500) (hnx:0<=nx/\nx<=1073741824) (hgv:0<=gv/\gv<=1073741824) (eF:0<=ep/\ep<=1048576) (hE: ∀ x∈ls,x.eF=ep) (hU: ∀ (i j:Nat) (a b:Ls),ls[i]? =some a->ls[j]? =some b->a.hno=b.hno->i=j):
    Calls tP 31 #[pV g 0,.agg #[iV kd,iV ((k:Nat):Int),iV id,iV bd,iV he,iV hn]] w (EX B w0 g fs (Dn ⟨ep,nx,gv,rs,ls,W⟩ he hn)):=by
 refine gu 41 Tryz.func31 ?_;refine cw [0,1] ?_;refine zN 2 ?_;refine iH S ?_;intro b1 w2 S3;refine gq S3 sZ ?_;intro b4 w5 S6;refine zN 5 ?_;refine bV S6 mixed kQ ?_;refine zN 7 ?_;refine uv (v:=iV ep) (λ_ anW=>(aj rfl rfl (aC (St.cl 2 anW rfl tq)))) ?_;by_cases h1:he=ep
 ·refine zQ ?_;refine dh λw16 kP=>?_;refine zN 10 ?_;refine vv (aj rfl rfl (aC (St.cl 2 kP rfl kX))) ?_;refine vv JK ?_;have HI:=λA c w h h2=>UL A c b1 he hn ls w h h2 oQ
  rcases Classical.em (∃ (k:Nat) (x:Ls),ls[k]? =some x/\zk he hn x=true/\ ∀ (j:Nat) (y:Ls),j<k->ls[j]? =some y->zk he hn y=false) with ⟨kk,x,hx,hm,hbf⟩ | hno
  ·rw [SY hbf hx hm] at HI;have hkk:=(List.getElem?_eq_some_iff.1 hx).1;refine dF eQ (HI _ _ _ (St.ord 4 kP rfl) (ael 1 kP rfl rfl (λj u h=>by rcases j with _ | _ | _<;>first | exact h | (simp at h)))) ?_;rintro _ MX ⟨rfl,anS⟩;refine ⟨_,rfl,?_⟩;have mq:=kP.on anS;refine zN 20 ?_;refine vv (aj rfl rfl (aC (St.cl 2 mq rfl kX))) ?_;refine zN 2 ?_;refine vv (v:=iV ((kk+1:Nat):Int)) fJ ?_;obtain ⟨g2,rfl⟩:=ET (mq.own 4 rfl) oQ;refine dF eQ (Ut g2 ls.length c2 kk _ (ls.flatMap Ls.cells) _ (mq.own 4 rfl) (Zx _) hkk) ?_;rintro _ DW ⟨rfl,aAf,as1⟩;refine ⟨_,rfl,?_⟩;rw [Ke (enc:=Ls.cells) (sz:=4) (λ_=>rfl)] at as1;have iX:=mq.adU 4 rfl aAf as1;refine zN 3 ?_;refine jD 2 iX kQ ?_ (hs:=by exact I6);intro w25 l6;refine zN 5 ?_;refine sa 0 l6 kQ ?_;intro MW qy;refine zN 5 ?_;have qH:=qy.aP [1,0];have Cj:=qH.bD 1 rfl;have kV:=Cj.bD 2 rfl;have hel:(ls.eraseIdx kk).length=ls.length-1:=List.length_eraseIdx_of_lt hkk;have hfo:=agt hx (akU hm) hU;rw [aqT h1 (by rw [hfo,hel];omega),hfo];refine ⟨rfl,A1,c1,(aD g2 0),c2,?_⟩;dsimp only;rw [hel];exact kV
  have hall:=akT hno;rw [Le (λj y _ hy=>hall y (List.mem_of_getElem? hy))] at HI;refine dF eQ (HI _ _ _ (St.ord 4 kP rfl) (ael 1 kP rfl rfl (λj u h=>by rcases j with _ | _ | _<;>first | exact h | (simp at h)))) ?_;rintro _ w32 ⟨rfl,aAg⟩;refine ⟨_,rfl,?_⟩;have rW:=kP.on aAg;refine zN 13 ?_;refine vv (v:= .agg #[iV 7,iV 0,iV 0,iV 0]) gD ?_;refine sa 0 rW kQ ?_;intro VO nQ;refine zN 6 ?_;have qz:=nQ.aP [1,0];have qJ:=qz.bD 1 rfl;have Ck:=qJ.bD 2 rfl;rw [agk h1 (by rw [GL (λy hy hyn=>by have:=hall y hy;rw [akV (hE y hy) h1 hyn] at this;cases this)])];refine ⟨rfl,A1,c1,A2,c2,?_⟩;dsimp only;exact Ck
 refine zQ ?_;refine dh λw41 wo=>?_;refine zN 4 ?_;refine vv (v:= .agg #[iV 11,iV 0,iV 0,iV 0]) gD ?_;refine sa 0 wo kQ ?_;intro w43 Dc;refine zN 6 ?_;have nX:=Dc.aP [1,0];have rX:=nX.bD 1 rfl;have yg:=rX.bD 2 rfl;rw [aaX h1];refine ⟨rfl,A1,c1,A2,c2,?_⟩;dsimp only;exact yg
theorem aa6 {B g k c1 c2:Nat} {w0 w:World} {fs:List Fact} {A1 A2:Option Addr} {rs:List eH} {ls:List Ls} {W:jO} {ep nx gv kd id bd he hn:Int} (S:St B w0 w (.blk g (bI ep nx gv (.slice A1 rs.length c1) (.slice A2 ls.length c2) W) 120:: .own 87 2 (.slice A1 rs.length c1) rs.length ((rs).flatMap eH.cells):: .own 89 4 (.slice A2 ls.length c2) ls.length ((ls).flatMap Ls.cells)::fs)) (hk:k<4) (hlen:rs.length+ls.length<=500) (hnx:0<=nx/\nx<=1073741824) (hgv:0<=gv/\gv<=1073741824) (eF:0<=ep/\ep<=1048576) (hA:rD rs) (hN:(nP rs ls).Nodup):
    Calls Tryz.prog 32 #[pV g 0,.agg #[iV kd,iV ((k:Nat):Int),iV id,iV bd,iV he,iV hn]] w (EX B w0 g fs (Dp ⟨ep,nx,gv,rs,ls,W⟩)):=by
 refine gu 63 Tryz.func32 ?_;refine cw [0,1] ?_;refine zN 2 ?_;refine iH S ?_;intro b1 w2 S3;refine gq S3 sZ ?_;intro b4 w5 S6;refine zN 10 ?_;refine vv (aj rfl rfl (aC (St.cl 2 S6 rfl tq))) ?_;by_cases h1:ep=1048576
 ·refine zN 6 ?_;refine vv (v:= .agg #[iV 14,iV 0,iV 0,iV 0]) gD ?_;refine sa 0 S6 kQ ?_;intro w7 S8;refine zN 6 ?_;have S9:=S8.aP [1,0];have qx:=S9.bD 1 rfl;have qI:=qx.bD 2 rfl;rw [agl h1];refine ⟨rfl,A1,c1,A2,c2,?_⟩;dsimp only;exact qI
 refine zN 13 ?_;refine vv (aj rfl rfl (aC (St.cl 2 S6 rfl kX))) ?_;refine zN 5 ?_;refine dN (X:=Nat×(Option Addr)×Nat) (λxv=>[(0,pV g 0),(4,pV b4 0),(5,.bool false),(19,.slice A2 ls.length c2),(20,iV ((ls.length:Nat):Int)),(21,iV ((xv.1:Nat):Int))]) (λxv wr=>(xv.1<=ls.length)/\St B w0 wr ((.blk b4 #[iV 0,iV 0,iV 0,iV 0] 67)::(.blk b1 #[iV kd,iV ((k:Nat):Int),iV id,iV bd,iV he,iV hn] 65)::(.blk g (bI ep nx gv (.slice xv.2.1 (rs.length+xv.1) xv.2.2) (.slice A2 ls.length c2) W) 120)::(.own 87 2 (.slice xv.2.1 (rs.length+xv.1) xv.2.2) (rs.length+xv.1) ((rs++(ls.take xv.1).map (·.msg)).flatMap eH.cells))::(.own 89 4 (.slice A2 ls.length c2) ls.length ((ls).flatMap Ls.cells))::fs)) (λxv=>ls.length-xv.1) (0,A1,c1) ?_ ?_ ?_
 ·exact ⟨Nat.zero_le _,by dsimp only;rw [show rs++(ls.take 0).map (·.msg)=rs by simp];exact S6⟩
 ·exact rP
 rintro ⟨q,Ab,cb⟩ ZC ⟨Me,uZ⟩
 try dsimp only at Me uZ
 refine aZ (l':=[(0,pV g 0),(4,pV b4 0),(5,.bool false),(19,.slice A2 ls.length c2),(20,iV ((ls.length:Nat):Int)),(21,iV ((q:Nat):Int))]) rP (aH (ay ?_));by_cases h15:((q:Nat):Int)< ((ls.length:Nat):Int)
 ·refine zN 11 ?_;obtain ⟨b16,o17,rfl⟩:=Rd.addr (St.ord 4 uZ rfl) oQ;obtain ⟨x18,E5⟩:=DT q (St.ord 4 uZ rfl) oQ;refine vv (jf q) ?_;refine vv (aj rfl rfl (cZ (cs:=Ls.cells x18) (Rd.uq (St.ord 4 uZ rfl) (λ_ _ h=>aW (enc:=Ls.cells) (sz:=4) (λ_=>rfl) E5 h)))) ?_;refine gq uZ asS ?_;intro b20 DW iX;refine sa 0 iX kQ ?_;intro H9 iP;refine zN 2 ?_;have jE:=iP.drew;refine fC 14 10 jE [4] ?_;iterate 5 refine gU ?_
  refine gk (v:= .slice Ab (rs.length+q) cb) 5 rfl (St.del 4 jE) (λ_ aa7=>(aj rfl rfl (aC (St.cl 3 aa7 rfl jT)))) ?_;refine gU ?_;refine gk (v:= .agg #[iV x18.msg.no,iV x18.msg.body]) 7 rfl (St.del 4 jE) (λ_ anV=>(aj rfl rfl (cZ (cs:=[iV x18.msg.no,iV x18.msg.body]) (St.rg 0 anV rfl (mU (x:=2) (m:=2) rfl))))) ?_;refine fq (m:=5) (r:=8) kQ ?_;refine mo (i:=8) rfl rfl (V:=λb=> .slice (aD b 0) 1 1) (row:= #[iV x18.msg.no,iV x18.msg.body]) (t:=87) jE (wn rfl) rfl rfl (aS (vs:=[(0,.agg #[iV x18.msg.no,iV x18.msg.body])]) rfl xU kQ) ?_;intro b34 VO nQ;refine gU ?_;refine fq (m:=4) (r:=9) kQ ?_;refine kN (i:=9) rfl rfl (news:=[iV x18.msg.no,iV x18.msg.body]) (xs':=(rs++(ls.take (q+1)).map (·.msg)).flatMap eH.cells) 5 nQ (wn rfl) rfl rfl rfl rfl rfl rfl (St.lD (xs:=[iV x18.msg.no,iV x18.msg.body]) 0 nQ rfl rfl rfl) Tryz.underlying40 VE rfl dQ (bM rfl) lQ oQ (iU (enc:=eH.cells) (by rw [List.append_assoc,Kk (f:=λx:Ls=>x.msg) E5]) rfl) ?_;intro A37 c38 w39 aJk aJl rY;refine gU ?_;refine eU kQ rfl rfl rfl ?_;refine zN 3 ?_;refine jD 4 rY kQ ?_ (hs:=by exact I5);intro w43 Dc;refine zQ ?_;refine iY ?_;refine zN 3 ?_;refine vv (v:=iV ((q+1:Nat):Int)) fJ ?_;refine zN 2 ?_;have nX:=Dc.aP [1,0];refine aM (q+1,A37,c38) ?_ rP (by first | omega | (dsimp only;omega));exact ⟨uQ,nX⟩
 refine zN 12 ?_;obtain rfl:q=ls.length:=oQ;have rX:=uZ;rw [List.take_length] at rX;refine zN 4 ?_;refine vv (aj rfl rfl (aC (St.cl 2 rX rfl jT))) ?_;have hml:(rs++ls.map (·.msg)).length=rs.length+ls.length:=by simp
 have HS:=λA c w (ho:World.ownsRow w B 87 2 (.slice A (rs++ls.map (·.msg)).length c) (rs++ls.map (·.msg)).length ((rs++ls.map (·.msg)).flatMap eH.cells))=>UG A c (rs++ls.map (·.msg)) w ho oQ;rw [hml] at HS;refine dF eQ (HS Ab cb _ (rX.own 3 rfl)) ?_;rintro _ w47 ⟨rfl,d49,as2,aAh,as3,as4⟩;refine ⟨_,rfl,?_⟩;have vO:=rX.append 3 rfl as4 as3 (.inl rfl);have hdl:=agm as2 aAh hA hN;clear HS as3 as4 rX;refine zN 8 ?_;refine jD 2 vO kQ ?_ (hs:=by exact I6);intro w54 uY;refine zN 8 ?_;refine vv (aj rfl rfl (aC (St.cl 2 uY rfl tq))) ?_;refine vv (v:=iV (ep+1)) fJ ?_;refine zN 3 ?_;refine jD 2 uY kQ ?_ (hs:=by exact akE);intro w56 qW;refine zN 8 ?_;refine jD 2 qW kQ ?_ (hs:=by exact Zt);intro w58 Ar;refine zN 5 ?_;refine sa 0 Ar kQ ?_;intro w60 Ia;refine zN 5 ?_;have GN:=Ia.aP [1,0];have vP:=GN.bD 1 rfl;have S64:=vP.seal 2 rfl Rd.none_ (λ(a:Addr) (h:(none:Option Addr)=some a)=>by cases h);have hln:d49.length=rs.length+ls.length:=by rw [as2.length_eq,hml]
 rw [aqU h1,<-hdl];refine ⟨rfl,Ab,cb,none,0,?_⟩;dsimp only;rw [hln];exact S64
section
variable {P:Program} {N:Nat} {l l':Slots} {w w' w0:World} {ops:Array Oper} {o:Oper} {rest:List Oper} {Q:Exit->Act->World->Prop} {d B:Nat} {v p:Value} {fs fs':List Fact} {b m f:Nat} {row row' cs:Array Value} {t ty:TypeId} {x y:Operand}
theorem saq (i:Nat) (S:St B w0 w fs) (hz:(P.info? ty).map (·.size)=some m) (h: ∀ w',St B w0 w' fs'->wL P N ops Q rest l w') (hw:o.guard=none:=by exact rfl) (hd:o.dst=none:=by exact rfl) (ho:o.op= .store ty x y:=by exact rfl)
  (hx:ev l x=some (.pointer (some ⟨b,0,none⟩)):=by exact rfl) (hy:ev l y=some v:=by exact rfl) (hi:fs[i]? =some (.blk b row t):=by exact rfl) (hv:v.cells=cs:=by exact rfl) (hm:cs.size=m:=by exact rfl)
  (h1: ∀ u∈cs.toList,u.oneCell'=true:=by exact xG rfl rfl) (hr:Nat.ble m row.size=true:=by exact rfl) (hs:row.size=cs.size:=by exact rfl) (hf:iL (.blk b cs t) fs i fs':=by repeat' first | exact iL.z | apply iL.s):wL P N ops Q (o::rest) l w:=
 FM i S (wn hw) hd ho hx hy hi hv hz hm h1 (by rw [Nat.zero_add];exact Nat.le_of_ble_eq_true hr) (rz hs) hf.eq h
theorem Lf {C:World->Prop} {n:Nat} {listed listed':Array Bool} (j:Nat) (hi':ops[j]? =some o) (i:Nat) (S:St B w0 w fs) (hz:(P.info? ty).map (·.size)=some m) (h: ∀ w',St B w0 w' fs'->C w'/\wA P N ops Q C n listed' l w') (hl:listed.setIfInBounds j true=listed':=by exact rfl)
  (hw:o.guard=none:=by exact rfl) (hd:o.dst=none:=by exact rfl) (ho:o.op= .store ty x y:=by exact rfl) (hx:ev l x=some (.pointer (some ⟨b,0,none⟩)):=by exact rfl) (hy:ev l y=some v:=by exact rfl) (hi:fs[i]? =some (.blk b row t):=by exact rfl) (hv:v.cells=cs:=by exact rfl)
  (hm:cs.size=m:=by exact rfl) (h1: ∀ u∈cs.toList,u.oneCell'=true:=by exact xG rfl rfl) (hr:Nat.ble m row.size=true:=by exact rfl) (hs:row.size=cs.size:=by exact rfl) (hf:iL (.blk b cs t) fs i fs':=by repeat' first | exact iL.z | apply iL.s):wK P N ops Q C n j listed l w:=
 uw hi' hl i S (wn hw) hd ho hx hy hi hv hz hm h1 (by rw [Nat.zero_add];exact Nat.le_of_ble_eq_true hr) (rz hs) hf.eq h
end
theorem Ib (e:Ev) (w:World):Calls Tryz.prog 26 #[e.val] w (WC w (aX e)):=(Hy e w).mono λ_ _ h=>⟨h.1,h.2⟩
theorem Kn {B:Nat} {w0 w:World} (S:St B w0 w []):St B w0 w [.bJ 2 none 0 [],.bJ 4 none 0 []]:=
 (aB S).cons ⟨Rd.none_,λa h=>by cases h⟩ λk hk=>by cases hk
theorem mO (ep nx gv kd pr id bd he hn:Int) (A1 A2:Option Addr) (c1 c2:Nat) (rs:List eH) (ls:List Ls) (W:jO) (w:World) (h1:Rd w w.heap.size 2 A1 rs.length (rs.flatMap eH.cells)) (h2:Rd w w.heap.size 4 A2 ls.length (ls.flatMap Ls.cells)) (hb1:rs.length*16<=reachBytes) (hb2:ls.length*32<=reachBytes):
    Calls Tryz.prog 16 #[.agg (bI ep nx gv (.slice A1 rs.length c1) (.slice A2 ls.length c2) W),.agg #[iV kd,iV pr,iV id,iV bd,iV he,iV hn]] w (akQ w (iw ⟨ep,nx,gv,rs,ls,W⟩ ⟨kd,pr,id,bd,he,hn⟩)):=by
 have S:=((St.start w).bL h2).bL h1;refine gu 70 Tryz.func16 ?_;refine cw [0,1] ?_;refine zN 2 ?_;refine iH S ?_;intro b1 w2 S3;refine iH S3 ?_;intro b4 w5 S6;refine jC (V:=λb=>pV b 0) (row:=bI 0 0 0 (.slice none 0 0) (.slice none 0 0) fF) (t:=47) S6 (wn rfl) rfl rfl (dO rfl (Tryz.zeroValue47 _) rfl) ?_;intro b7 w8 S9;refine gq S9 sZ ?_;intro b10 GI l5;refine zN 8 ?_;refine cab eQ l5 (QV ep nx gv A1 A2 c1 c2 rs ls W _ (St.rd 4 l5 rfl) (St.rd 5 l5 rfl) hb1 hb2) ?_;intro Ey kD;refine zN 6 ?_;by_cases h0:fT ep nx gv rs ls W=0
 ·obtain ⟨hR,hW,hRd,hLs,hNd⟩:=I8 h0;unfold RY at hR;refine zN 10 ?_;refine cab eQ kD (Ib ⟨kd,pr,id,bd,he,hn⟩ _) ?_;intro w16 kP;refine zN 6 ?_;by_cases h1:aX ⟨kd,pr,id,bd,he,hn⟩=0
  ·have hkd:=Zv h1;have hpr:=Zw h1;simp only at hkd hpr;obtain ⟨k,hk0⟩: ∃ k:Nat,pr=(k:Int):=⟨pr.toNat,by omega⟩;subst hk0;have hk:k<4:=oQ;refine zN 9 ?_;refine vv (v:= .agg (bI ep nx gv (.slice A1 rs.length c1) (.slice A2 ls.length c2) W)) gD ?_;refine iH kP ?_;intro b19 ZF tZ;refine zN 4 ?_;have iX:=tZ.drew;refine aN 16 iX [0] ?_;refine aL 3 ?_;refine ak (v:= .slice A1 rs.length c1) 3 rfl (St.del 0 iX) (λ_ abe=>(aj rfl rfl (aC (St.cl 3 abe rfl jT)))) ?_;refine cO ?_;refine ak (v:= .slice A2 ls.length c2) 6 rfl (St.del 0 iX) (λ_ anX=>(aj rfl rfl (aC (St.cl 3 anX rfl kX)))) ?_;refine aU 4 ?_;refine jI 4 rfl eQ (QT A1 rs.length c1 _ _ (St.rd 5 iX rfl) (agp rs) hb1) ?_;rintro _ ZA ⟨Lg,QZ,rfl,aAi,aAj⟩;refine ⟨_,rfl,?_⟩;have qo:=iX.uo aAi aAj;refine cO ?_;refine aU 7 ?_;refine jI 7 rfl eQ (QU A2 ls.length c2 _ _ (St.rd 7 qo rfl) (Zx ls) hb2) ?_;rintro _ w39 ⟨M4,M5,rfl,anT,aAk⟩;refine ⟨_,rfl,?_⟩;have rY:=qo.uo anT aAk;refine aL 4 ?_;refine aU 11 ?_;refine snz 11 rfl 2 rY kQ ?_ (hs:=by exact I5);intro QX nX;refine aL 4 ?_;refine aU 15 ?_;refine snz 15 rfl 2 nX kQ ?_ (hs:=by exact I6);intro VP oU;refine aL 2 ?_;refine zN 3 ?_;refine Kh (k:=3) oU (wn rfl) rfl rfl rfl ?_;intro b51 w52 zP;refine zQ ?_;refine vv JK ?_;refine kG (e:=123) 0 zP (wn rfl) rfl rfl rfl rfl rfl rfl Tryz.underlying3 Tryz.underlying124 dQ dQ ?_;intro w54 uY;refine zQ ?_;refine vv JK ?_;refine kG (e:=123) 0 uY (wn rfl) rfl rfl rfl rfl rfl rfl Tryz.underlying3 Tryz.underlying124 dQ dQ ?_;intro w56 qW;refine zQ ?_;refine vv JK ?_;refine kG (e:=123) 0 qW (wn rfl) rfl rfl rfl rfl rfl rfl Tryz.underlying3 Tryz.underlying124 dQ dQ ?_;intro w58 Ar;refine zQ ?_;refine vv JK ?_;refine kG (e:=123) 0 Ar (wn rfl) rfl rfl rfl rfl rfl rfl Tryz.underlying3 Tryz.underlying124 dQ dQ ?_;intro w60 Ia;refine zN 3 ?_
   rcases (by omega:kd=1\/kd=2\/kd=3\/kd=4) with rfl | rfl | rfl | rfl
   ·refine vv (v:= .func (.func 29) #[pV b19 0] #[]) (jS 0 Ia rfl rfl rfl rfl Tryz.underlying3 Tryz.underlying124 (Tryz.zeroValue123 _) dQ rfl) ?_;refine zN 7 ?_;have GN:St w.heap.size w w60 [.blk b19 (bI ep nx gv (.slice Lg rs.length QZ) (.slice M4 ls.length M5) W) 120,.own 87 2 (.slice Lg rs.length QZ) rs.length ((rs).flatMap eH.cells),.own 89 4 (.slice M4 ls.length M5) ls.length ((ls).flatMap Ls.cells),.loc b51 (p9 Tryz.prog 3 (λy=>if y=4 then some (.func (.func 32) #[pV b19 0] #[]) else (λy=>if y=3 then some (.func (.func 31) #[pV b19 0] #[]) else (λy=>if y=2 then some (.func (.func 30) #[pV b19 0] #[]) else (λy=>if y=1 then some (.func (.func 29) #[pV b19 0] #[]) else (λ_=>none) y) y) y) y) 4),.blk b10 #[iV 0,iV 0,iV 0,iV 0] 67,.blk b7 (bI 0 0 0 (.slice none 0 0) (.slice none 0 0) fF) 47,.blk b4 #[iV 1,iV ((k:Nat):Int),iV id,iV bd,iV he,iV hn] 65,.blk b1 (bI ep nx gv (.slice A1 rs.length c1) (.slice A2 ls.length c2) W) 47,.rd 2 A1 rs.length ((rs).flatMap eH.cells),.rd 4 A2 ls.length ((ls).flatMap Ls.cells)]:=Ia.re [3,2,1,0,4,5,6,7,8,9] dQ;have HC:=Nj (kd:=1) (k:=k) (id:=id) (bd:=bd) (he:=he) (hn:=hn) GN hk oQ oQ oQ oQ;rw [<-show stepM ⟨ep,nx,gv,rs,ls,W⟩ ⟨1,((k:Nat):Int),id,bd,he,hn⟩=AL ⟨ep,nx,gv,rs,ls,W⟩ k id bd from by simp [stepM]] at HC;obtain ⟨R,VT⟩: ∃ R,stepM ⟨ep,nx,gv,rs,ls,W⟩ ⟨1,((k:Nat):Int),id,bd,he,hn⟩=R:=⟨_,rfl⟩;rw [VT] at HC;refine wM eQ (HC) ?_;rintro _ w67 ⟨rfl,A63,c64,A65,c66,Bc⟩;refine ⟨_,rfl,?_⟩;refine zN 3 ?_;refine gq Bc sZ ?_;intro b69 Zz lu;refine sa 0 lu kQ ?_;intro w72 tY;refine zN 4 ?_;have Lc:=tY.drew;refine aN 10 Lc [6,5] ?_;refine aL 6 ?_;refine aU 6 ?_;refine Lf 6 rfl 6 Lc kQ ?_;intro w81 S82;refine cO ?_;refine aU 7 ?_;refine sn 7 rfl 5 S82 kQ ?_;intro w83 FZ;refine aL 4 ?_;refine zN 2 ?_;refine dS (rs:=[.cell 4 47,.cell 5 67,.tmp 6,.tmp 7]) (vs:=[.agg (bI R.1.ep R.1.nx R.1.gv (.slice A63 R.1.ready.length c64) (.slice A65 R.1.aA.length c66) R.1.ws),.agg #[iV R.2.1.code,iV R.2.1.eF,iV R.2.1.hno,iV R.2.1.body],.bool R.2.2,iV 0]) rfl ⟨⟨_,rfl,eT 6 FZ rfl Tryz.underlying47 rfl kQ⟩,⟨_,rfl,eT 5 FZ rfl Tryz.underlying67 rfl kQ⟩,rfl,rfl,trivial⟩ ?_;have Ez:=FZ.aP [10,9,8,7,6,5,4,1,0];rw [zM (Q:=⟨ep,nx,gv,rs,ls,W⟩) h0 h1,VT];exact ⟨A63,c64,A65,c66,rfl,Ez⟩
   ·refine vv (v:= .func (.func 30) #[pV b19 0] #[]) (jS 0 Ia rfl rfl rfl rfl Tryz.underlying3 Tryz.underlying124 (Tryz.zeroValue123 _) dQ rfl) ?_;refine zN 7 ?_;have JN:St w.heap.size w w60 [.blk b19 (bI ep nx gv (.slice Lg rs.length QZ) (.slice M4 ls.length M5) W) 120,.own 87 2 (.slice Lg rs.length QZ) rs.length ((rs).flatMap eH.cells),.own 89 4 (.slice M4 ls.length M5) ls.length ((ls).flatMap Ls.cells),.loc b51 (p9 Tryz.prog 3 (λy=>if y=4 then some (.func (.func 32) #[pV b19 0] #[]) else (λy=>if y=3 then some (.func (.func 31) #[pV b19 0] #[]) else (λy=>if y=2 then some (.func (.func 30) #[pV b19 0] #[]) else (λy=>if y=1 then some (.func (.func 29) #[pV b19 0] #[]) else (λ_=>none) y) y) y) y) 4),.blk b10 #[iV 0,iV 0,iV 0,iV 0] 67,.blk b7 (bI 0 0 0 (.slice none 0 0) (.slice none 0 0) fF) 47,.blk b4 #[iV 2,iV ((k:Nat):Int),iV id,iV bd,iV he,iV hn] 65,.blk b1 (bI ep nx gv (.slice A1 rs.length c1) (.slice A2 ls.length c2) W) 47,.rd 2 A1 rs.length ((rs).flatMap eH.cells),.rd 4 A2 ls.length ((ls).flatMap Ls.cells)]:=Ia.re [3,2,1,0,4,5,6,7,8,9] dQ;have HC:=Nk (kd:=2) (k:=k) (id:=id) (bd:=bd) (he:=he) (hn:=hn) JN hk oQ oQ oQ oQ;rw [<-show stepM ⟨ep,nx,gv,rs,ls,W⟩ ⟨2,((k:Nat):Int),id,bd,he,hn⟩=EW ⟨ep,nx,gv,rs,ls,W⟩ from by simp [stepM]] at HC;obtain ⟨R,VT⟩: ∃ R,stepM ⟨ep,nx,gv,rs,ls,W⟩ ⟨2,((k:Nat):Int),id,bd,he,hn⟩=R:=⟨_,rfl⟩;rw [VT] at HC;refine wM eQ (HC) ?_;rintro _ w93 ⟨rfl,A89,c90,A91,c92,FY⟩;refine ⟨_,rfl,?_⟩;refine zN 3 ?_;refine gq FY sZ ?_;intro b95 w96 Au;refine sa 0 Au kQ ?_;intro w98 S99;refine zN 4 ?_;have sI:=S99.drew;refine aN 10 sI [6,5] ?_;refine aL 6 ?_;refine aU 6 ?_;refine Lf 6 rfl 6 sI kQ ?_;intro aAl vG;refine cO ?_;refine aU 7 ?_;refine sn 7 rfl 5 vG kQ ?_;intro WH qb;refine aL 4 ?_;refine zN 2 ?_;refine dS (rs:=[.cell 4 47,.cell 5 67,.tmp 6,.tmp 7]) (vs:=[.agg (bI R.1.ep R.1.nx R.1.gv (.slice A89 R.1.ready.length c90) (.slice A91 R.1.aA.length c92) R.1.ws),.agg #[iV R.2.1.code,iV R.2.1.eF,iV R.2.1.hno,iV R.2.1.body],.bool R.2.2,iV 0]) rfl ⟨⟨_,rfl,eT 6 qb rfl Tryz.underlying47 rfl kQ⟩,⟨_,rfl,eT 5 qb rfl Tryz.underlying67 rfl kQ⟩,rfl,rfl,trivial⟩ ?_;have mG:=qb.aP [10,9,8,7,6,5,4,1,0];rw [zM (Q:=⟨ep,nx,gv,rs,ls,W⟩) h0 h1,VT];exact ⟨A89,c90,A91,c92,rfl,mG⟩
   ·refine vv (v:= .func (.func 31) #[pV b19 0] #[]) (jS 0 Ia rfl rfl rfl rfl Tryz.underlying3 Tryz.underlying124 (Tryz.zeroValue123 _) dQ rfl) ?_;refine zN 7 ?_;have E8:St w.heap.size w w60 [.blk b19 (bI ep nx gv (.slice Lg rs.length QZ) (.slice M4 ls.length M5) W) 120,.own 87 2 (.slice Lg rs.length QZ) rs.length ((rs).flatMap eH.cells),.own 89 4 (.slice M4 ls.length M5) ls.length ((ls).flatMap Ls.cells),.loc b51 (p9 Tryz.prog 3 (λy=>if y=4 then some (.func (.func 32) #[pV b19 0] #[]) else (λy=>if y=3 then some (.func (.func 31) #[pV b19 0] #[]) else (λy=>if y=2 then some (.func (.func 30) #[pV b19 0] #[]) else (λy=>if y=1 then some (.func (.func 29) #[pV b19 0] #[]) else (λ_=>none) y) y) y) y) 4),.blk b10 #[iV 0,iV 0,iV 0,iV 0] 67,.blk b7 (bI 0 0 0 (.slice none 0 0) (.slice none 0 0) fF) 47,.blk b4 #[iV 3,iV ((k:Nat):Int),iV id,iV bd,iV he,iV hn] 65,.blk b1 (bI ep nx gv (.slice A1 rs.length c1) (.slice A2 ls.length c2) W) 47,.rd 2 A1 rs.length ((rs).flatMap eH.cells),.rd 4 A2 ls.length ((ls).flatMap Ls.cells)]:=Ia.re [3,2,1,0,4,5,6,7,8,9] dQ;have HC:=aa5 (kd:=3) (k:=k) (id:=id) (bd:=bd) (he:=he) (hn:=hn) E8 hk oQ oQ oQ oQ (aqX hLs) (aqY hLs);rw [<-show stepM ⟨ep,nx,gv,rs,ls,W⟩ ⟨3,((k:Nat):Int),id,bd,he,hn⟩=Dn ⟨ep,nx,gv,rs,ls,W⟩ he hn from by simp [stepM]] at HC;obtain ⟨R,VT⟩: ∃ R,stepM ⟨ep,nx,gv,rs,ls,W⟩ ⟨3,((k:Nat):Int),id,bd,he,hn⟩=R:=⟨_,rfl⟩;rw [VT] at HC;refine wM eQ (HC) ?_;rintro _ anY ⟨rfl,as7,c116,as8,as9,oV⟩;refine ⟨_,rfl,?_⟩;refine zN 3 ?_;refine gq oV sZ ?_;intro aJm anZ AO;refine sa 0 AO kQ ?_;intro an0 Mg;refine zN 4 ?_;have yh:=Mg.drew;refine aN 10 yh [6,5] ?_;refine aL 6 ?_;refine aU 6 ?_;refine Lf 6 rfl 6 yh kQ ?_;intro WJ yj;refine cO ?_;refine aU 7 ?_;refine sn 7 rfl 5 yj kQ ?_;intro anU zh;refine aL 4 ?_;refine zN 2 ?_;refine dS (rs:=[.cell 4 47,.cell 5 67,.tmp 6,.tmp 7]) (vs:=[.agg (bI R.1.ep R.1.nx R.1.gv (.slice as7 R.1.ready.length c116) (.slice as8 R.1.aA.length as9) R.1.ws),.agg #[iV R.2.1.code,iV R.2.1.eF,iV R.2.1.hno,iV R.2.1.body],.bool R.2.2,iV 0]) rfl ⟨⟨_,rfl,eT 6 zh rfl Tryz.underlying47 rfl kQ⟩,⟨_,rfl,eT 5 zh rfl Tryz.underlying67 rfl kQ⟩,rfl,rfl,trivial⟩ ?_;have Du:=zh.aP [10,9,8,7,6,5,4,1,0];rw [zM (Q:=⟨ep,nx,gv,rs,ls,W⟩) h0 h1,VT];exact ⟨as7,c116,as8,as9,rfl,Du⟩
   refine vv (v:= .func (.func 32) #[pV b19 0] #[]) (jS 0 Ia rfl rfl rfl rfl Tryz.underlying3 Tryz.underlying124 (Tryz.zeroValue123 _) dQ rfl) ?_;refine zN 7 ?_;have Dr:St w.heap.size w w60 [.blk b19 (bI ep nx gv (.slice Lg rs.length QZ) (.slice M4 ls.length M5) W) 120,.own 87 2 (.slice Lg rs.length QZ) rs.length ((rs).flatMap eH.cells),.own 89 4 (.slice M4 ls.length M5) ls.length ((ls).flatMap Ls.cells),.loc b51 (p9 Tryz.prog 3 (λy=>if y=4 then some (.func (.func 32) #[pV b19 0] #[]) else (λy=>if y=3 then some (.func (.func 31) #[pV b19 0] #[]) else (λy=>if y=2 then some (.func (.func 30) #[pV b19 0] #[]) else (λy=>if y=1 then some (.func (.func 29) #[pV b19 0] #[]) else (λ_=>none) y) y) y) y) 4),.blk b10 #[iV 0,iV 0,iV 0,iV 0] 67,.blk b7 (bI 0 0 0 (.slice none 0 0) (.slice none 0 0) fF) 47,.blk b4 #[iV 4,iV ((k:Nat):Int),iV id,iV bd,iV he,iV hn] 65,.blk b1 (bI ep nx gv (.slice A1 rs.length c1) (.slice A2 ls.length c2) W) 47,.rd 2 A1 rs.length ((rs).flatMap eH.cells),.rd 4 A2 ls.length ((ls).flatMap Ls.cells)]:=Ia.re [3,2,1,0,4,5,6,7,8,9] dQ;have HC:=aa6 (kd:=4) (k:=k) (id:=id) (bd:=bd) (he:=he) (hn:=hn) Dr hk oQ oQ oQ oQ (akR hRd) hNd;rw [<-show stepM ⟨ep,nx,gv,rs,ls,W⟩ ⟨4,((k:Nat):Int),id,bd,he,hn⟩=Dp ⟨ep,nx,gv,rs,ls,W⟩ from by simp [stepM]] at HC;obtain ⟨R,VT⟩: ∃ R,stepM ⟨ep,nx,gv,rs,ls,W⟩ ⟨4,((k:Nat):Int),id,bd,he,hn⟩=R:=⟨_,rfl⟩;rw [VT] at HC;refine wM eQ (HC) ?_;rintro _ aAm ⟨rfl,ah2,ah3,abf,abg,R6⟩;refine ⟨_,rfl,?_⟩;refine zN 3 ?_;refine gq R6 sZ ?_;intro aAn aAo AP;refine sa 0 AP kQ ?_;intro ata Oo;refine zN 4 ?_;have Jb:=Oo.drew;refine aN 10 Jb [6,5] ?_;refine aL 6 ?_;refine aU 6 ?_;refine Lf 6 rfl 6 Jb kQ ?_;intro ah4 Jc;refine cO ?_;refine aU 7 ?_;refine sn 7 rfl 5 Jc kQ ?_;intro aAp Jd;refine aL 4 ?_;refine zN 2 ?_;refine dS (rs:=[.cell 4 47,.cell 5 67,.tmp 6,.tmp 7]) (vs:=[.agg (bI R.1.ep R.1.nx R.1.gv (.slice ah2 R.1.ready.length ah3) (.slice abf R.1.aA.length abg) R.1.ws),.agg #[iV R.2.1.code,iV R.2.1.eF,iV R.2.1.hno,iV R.2.1.body],.bool R.2.2,iV 0]) rfl ⟨⟨_,rfl,eT 6 Jd rfl Tryz.underlying47 rfl kQ⟩,⟨_,rfl,eT 5 Jd rfl Tryz.underlying67 rfl kQ⟩,rfl,rfl,trivial⟩ ?_;have zl:=Jd.aP [10,9,8,7,6,5,4,1,0];rw [zM (Q:=⟨ep,nx,gv,rs,ls,W⟩) h0 h1,VT];exact ⟨ah2,ah3,abf,abg,rfl,zl⟩
  refine zN 2 ?_;refine C8 (vv (v:= .agg (bI 0 0 0 (.slice none 0 0) (.slice none 0 0) fF)) yz ?_);refine zN 2 ?_;refine saq 1 kP kQ ?_;intro aAq atb;refine sa 0 atb kQ ?_;intro ah5 GQ;refine zN 6 ?_;refine dS (rs:=[.cell 4 47,.cell 5 67,.tmp 6,.tmp 7]) (vs:=[.agg (bI 0 0 0 (.slice none 0 0) (.slice none 0 0) fF),.agg #[iV 0,iV 0,iV 0,iV 0],.bool false,iV (aX ⟨kd,pr,id,bd,he,hn⟩)]) rfl ⟨⟨_,rfl,eT 1 GQ rfl Tryz.underlying47 rfl kQ⟩,⟨_,rfl,eT 0 GQ rfl Tryz.underlying67 rfl kQ⟩,rfl,rfl,trivial⟩ ?_;have WK:=GQ.aP [5,4,3,2,1,0];rw [QS (Q:=⟨ep,nx,gv,rs,ls,W⟩) h0 h1];exact ⟨none,0,none,0,rfl,Kn WK⟩
 refine zN 2 ?_;refine C8 (vv (v:= .agg (bI 0 0 0 (.slice none 0 0) (.slice none 0 0) fF)) yz ?_);refine zN 2 ?_;refine saq 1 kD kQ ?_;intro aAr zm;refine sa 0 zm kQ ?_;intro aAs abh;refine zN 6 ?_;refine dS (rs:=[.cell 4 47,.cell 5 67,.tmp 6,.tmp 7]) (vs:=[.agg (bI 0 0 0 (.slice none 0 0) (.slice none 0 0) fF),.agg #[iV 0,iV 0,iV 0,iV 0],.bool false,iV (fT ep nx gv rs ls W)]) rfl ⟨⟨_,rfl,eT 1 abh rfl Tryz.underlying47 rfl kQ⟩,⟨_,rfl,eT 0 abh rfl Tryz.underlying67 rfl kQ⟩,rfl,rfl,trivial⟩ ?_;have WL:=abh.aP [5,4,3,2,1,0];rw [MI (Q:=⟨ep,nx,gv,rs,ls,W⟩) h0];exact ⟨none,0,none,0,rfl,Kn WL⟩
def Je (e n g:Int) (r l:Value) (W:jO) (a:Value):Array Value:=(iV e::iV n::iV g::r::l::(W.cells++[a])).toArray
section
variable {e n g:Int} {r l a:Value} {W:jO}
theorem abj:(Je e n g r l W a).size=42:=rfl
theorem aeH: ∀ (j:Nat) (u:Value),(bI e n g r l W).toList[j]? =some u->(Je e n g r l W a)[0+j]? =some u:=mU (m:=41) rfl
theorem akW {e' n' g':Int} {r' l':Value} {W':jO}:cu (Je e n g r l W a) 0 (bI e' n' g' r' l' W').toList=Je e' n' g' r' l' W' a:=by
 apply Array.toList_inj.1;rw [iq _ _ _ (by rw [abj];show 0+41<=42;omega)];rfl
end
def oW (g:Nat) (Q:Qd) (an:List iM) (A1:Option Addr) (c1:Nat) (A2:Option Addr) (c2:Nat) (A3:Option Addr) (c3:Nat) (fs:List Fact):List Fact:=
 (.blk g (Je Q.ep Q.nx Q.gv (.slice A1 Q.ready.length c1) (.slice A2 Q.aA.length c2) Q.ws (.slice A3 an.length c3)) 85)::(.bJ 2 A1 Q.ready.length ((Q.ready).flatMap eH.cells))::(.bJ 4 A2 Q.aA.length ((Q.aA).flatMap Ls.cells))::(.own 67 4 (.slice A3 an.length c3) an.length ((an).flatMap iM.cells))::fs
def akX (B:Nat) (w0:World) (g:Nat) (fs:List Fact) (an:List iM) (r:Qd×iM×Bool×Int) (e:Ending) (w':World):Prop:=
 ((r.2.2.2=0/\r.2.2.1=true)->e= .returned (.bool true)/\ ∃ A1 c1 A2 c2 A3 c3,St B w0 w' (oW g r.1 (an++[r.2.1]) A1 c1 A2 c2 A3 c3 fs))/\(¬ (r.2.2.2=0/\r.2.2.1=true)->e= .returned (.bool false)/\St B w0 w' fs)
def agu (w:World) (r:Qd×List iM×Int) (e:Ending) (w':World):Prop:=
 (r.2.2=0-> ∃ g A1 c1 A2 c2 A3 c3,e= .returned (.tuple #[pV g 0,iV 0])/\St w.heap.size w w' (oW g r.1 r.2.1 A1 c1 A2 c2 A3 c3 []))/\(r.2.2≠0->e= .returned (.tuple #[.pointer none,iV r.2.2])/\Below w.heap.size w w')
def Yc (w:World) (r:Qd×List iM×Int) (e:Ending) (w':World):Prop:= ∃ A1 c1 A2 c2,
 e= .returned (.tuple #[.agg (bI r.1.ep r.1.nx r.1.gv (.slice A1 r.1.ready.length c1) (.slice A2 r.1.aA.length c2) r.1.ws),iV r.2.2])/\
 St w.heap.size w w' [.bJ 2 A1 r.1.ready.length (r.1.ready.flatMap eH.cells),.bJ 4 A2 r.1.aA.length (r.1.aA.flatMap Ls.cells)]
def UM (w:World) (r:Qd×List iM×Int) (e:Ending) (w':World):Prop:= ∃ A c,
 e= .returned (.tuple #[.slice A r.2.1.length c,iV r.2.2])/\St w.heap.size w w' [.bJ 4 A r.2.1.length (r.2.1.flatMap iM.cells)]
theorem abk {B g c1 c2 c3:Nat} {w0 w:World} {fs:List Fact} {A1 A2 A3:Option Addr} {Q:Qd} {an:List iM} {x:Ev} (S:St B w0 w (oW g Q an A1 c1 A2 c2 A3 c3 fs)) (hq:Q.ready.length+Q.aA.length<=501) (ha:an.length<=2000):
    Calls Tryz.prog 33 #[pV g 0,.agg #[iV x.kind,iV x.producer,iV x.id,iV x.body,iV x.aG,iV x.hno]] w (akX B w0 g fs an (iw Q x)):=by
 unfold oW at S;obtain ⟨R,hR⟩: ∃ R,iw Q x=R:=⟨_,rfl⟩;refine gu 40 Tryz.func33 ?_;refine cw [0,1] ?_;refine zN 2 ?_;refine iH S ?_;intro b1 w2 S3;refine zN 3 ?_;refine mh (X:=Nat×Nat×(Option Addr)×Nat×(Option Addr)×Nat) (λxv=>[(0,pV g 0),(4,.bool false),(5,pV xv.1 0),(6,pV xv.2.1 0),(7,.bool R.2.2.1),(8,iV R.2.2.2)]) (λxv wr=>St B w0 wr ((.blk xv.2.1 #[iV R.2.1.code,iV R.2.1.eF,iV R.2.1.hno,iV R.2.1.body] 67)::(.blk xv.1 (bI R.1.ep R.1.nx R.1.gv (.slice xv.2.2.1 R.1.ready.length xv.2.2.2.1) (.slice xv.2.2.2.2.1 R.1.aA.length xv.2.2.2.2.2) R.1.ws) 47)::(.bJ 2 xv.2.2.1 R.1.ready.length ((R.1.ready).flatMap eH.cells))::(.bJ 4 xv.2.2.2.2.1 R.1.aA.length ((R.1.aA).flatMap Ls.cells))::(.blk b1 #[iV x.kind,iV x.producer,iV x.id,iV x.body,iV x.aG,iV x.hno] 65)::(.blk g (Je Q.ep Q.nx Q.gv (.slice A1 Q.ready.length c1) (.slice A2 Q.aA.length c2) Q.ws (.slice A3 an.length c3)) 85)::(.bJ 2 A1 Q.ready.length ((Q.ready).flatMap eH.cells))::(.bJ 4 A2 Q.aA.length ((Q.aA).flatMap Ls.cells))::(.own 67 4 (.slice A3 an.length c3) an.length ((an).flatMap iM.cells))::fs)) ?_ ?_
 ·have S4:=S3.drew;refine aN 17 S4 [] ?_;refine aL 3 ?_;refine ak (v:= .agg (bI Q.ep Q.nx Q.gv (.slice A1 Q.ready.length c1) (.slice A2 Q.aA.length c2) Q.ws)) 3 rfl S4 (λ_ Sx8=>(aj rfl rfl (cZ (cs:=(bI Q.ep Q.nx Q.gv (.slice A1 Q.ready.length c1) (.slice A2 Q.aA.length c2) Q.ws).toList) (St.rg 1 Sx8 rfl (aeH))))) ?_;refine cO ?_;refine Ka (n:=11) (r:=5) (s:=11) (t:=12) kQ ?_ ?_ ?_
  ·have HD:=λA1 A2 c1 c2 w h1 h2=>mO Q.ep Q.nx Q.gv x.kind x.producer x.id x.body x.aG x.hno A1 A2 c1 c2 Q.ready Q.aA Q.ws w h1 h2 hQ hQ;rw [show iw ⟨Q.ep,Q.nx,Q.gv,Q.ready,Q.aA,Q.ws⟩ ⟨x.kind,x.producer,x.id,x.body,x.aG,x.hno⟩=R from hR] at HD;refine jI 5 rfl eQ (HD A1 A2 c1 c2 _ (St.bJ 2 S4 rfl) (St.bJ 3 S4 rfl)) ?_;rintro _ JO ⟨EA,c11,Q0,c13,rfl,T16⟩;refine ⟨_,rfl,?_⟩;have iG:=S4.ext T16 rfl;clear HD;refine aL 6 ?_;refine gH (n:=5) (r:=11) (s:=12) kQ ?_ ?_
   ·refine gW (i:=11) rfl rfl (V:=λb=>pV b 0) (row:=bI 0 0 0 (.slice none 0 0) (.slice none 0 0) fF) (t:=47) iG (wn rfl) rfl rfl (dO rfl (Tryz.zeroValue47 _) rfl) ?_;intro Ta H9 iP;refine cO ?_;refine aU 12 ?_;refine lH 12 rfl iP sZ ?_;intro SV Om tX;refine cO ?_;refine aU 13 ?_;refine Lf 13 rfl 1 tX kQ ?_;intro VN qH;refine cO ?_;refine aU 14 ?_;refine sn 14 rfl 0 qH kQ ?_;intro SS kV;refine aL 4 ?_;refine bX (Ta,SV,EA,c11,Q0,c13) ?_ rP;exact kV
   refine lH 12 rfl iG sZ ?_;intro b34 VO nQ;refine cO ?_;refine aU 11 ?_;refine gW (i:=11) rfl rfl (V:=λb=>pV b 0) (row:=bI 0 0 0 (.slice none 0 0) (.slice none 0 0) fF) (t:=47) nQ (wn rfl) rfl rfl (dO rfl (Tryz.zeroValue47 _) rfl) ?_;intro b37 w38 Ck;refine cO ?_;refine aU 13 ?_;refine Lf 13 rfl 0 Ck kQ ?_;intro w40 JL;refine cO ?_;refine aU 14 ?_;refine sn 14 rfl 1 JL kQ ?_;intro VJ tT;refine aL 4 ?_;have rX:=tT.eG [8,8,8,8,8,8,8,7,8];refine bX (b37,b34,EA,c11,Q0,c13) ?_ rP;exact rX
  ·refine gW (i:=11) rfl rfl (V:=λb=>pV b 0) (row:=bI 0 0 0 (.slice none 0 0) (.slice none 0 0) fF) (t:=47) S4 (wn rfl) rfl rfl (dO rfl (Tryz.zeroValue47 _) rfl) ?_;intro b47 ZG uF;refine cO ?_;refine gH (n:=10) (r:=5) (s:=12) kQ ?_ ?_
   ·have HD:=λA1 A2 c1 c2 w h1 h2=>mO Q.ep Q.nx Q.gv x.kind x.producer x.id x.body x.aG x.hno A1 A2 c1 c2 Q.ready Q.aA Q.ws w h1 h2 hQ hQ;rw [show iw ⟨Q.ep,Q.nx,Q.gv,Q.ready,Q.aA,Q.ws⟩ ⟨x.kind,x.producer,x.id,x.body,x.aG,x.hno⟩=R from hR] at HD;refine jI 5 rfl eQ (HD A1 A2 c1 c2 _ (St.bJ 3 uF rfl) (St.bJ 4 uF rfl)) ?_;rintro _ w54 ⟨ZH,c51,A52,c53,rfl,T56⟩;refine ⟨_,rfl,?_⟩;have uY:=uF.ext T56 rfl;clear HD;refine aL 6 ?_;refine aU 12 ?_;refine lH 12 rfl uY sZ ?_;intro b62 w63 S64;refine cO ?_;refine aU 13 ?_;refine Lf 13 rfl 3 S64 kQ ?_;intro w65 F3;refine cO ?_;refine aU 14 ?_;refine sn 14 rfl 0 F3 kQ ?_;intro w67 Bc;refine aL 4 ?_;have lu:=Bc.eG [8,8,8,8,8,7,7,8,8];refine bX (b47,b62,ZH,c51,A52,c53) ?_ rP;exact lu
   refine lH 12 rfl uF sZ ?_;intro b72 w73 Lc;refine cO ?_;refine aU 5 ?_;have HD:=λA1 A2 c1 c2 w h1 h2=>mO Q.ep Q.nx Q.gv x.kind x.producer x.id x.body x.aG x.hno A1 A2 c1 c2 Q.ready Q.aA Q.ws w h1 h2 hQ hQ;rw [show iw ⟨Q.ep,Q.nx,Q.gv,Q.ready,Q.aA,Q.ws⟩ ⟨x.kind,x.producer,x.id,x.body,x.aG,x.hno⟩=R from hR] at HD;refine jI 5 rfl eQ (HD A1 A2 c1 c2 _ (St.bJ 4 Lc rfl) (St.bJ 5 Lc rfl)) ?_;rintro _ w79 ⟨A75,c76,A77,c78,rfl,T81⟩;refine ⟨_,rfl,?_⟩;have Cm:=Lc.ext T81 rfl;clear HD;refine aL 6 ?_;refine aU 13 ?_;refine Lf 13 rfl 3 Cm kQ ?_;intro w87 JN;refine cO ?_;refine aU 14 ?_;refine sn 14 rfl 2 JN kQ ?_;intro w89 S90;refine aL 4 ?_;have DZ:=S90.eG [8,8,8,8,8,6,6,8,8];refine bX (b47,b72,A75,c76,A77,c78) ?_ rP;exact DZ
  refine lH 12 rfl S4 sZ ?_;intro b94 w95 D5;refine cO ?_;refine gH (n:=10) (r:=5) (s:=11) kQ ?_ ?_
  ·have HD:=λA1 A2 c1 c2 w h1 h2=>mO Q.ep Q.nx Q.gv x.kind x.producer x.id x.body x.aG x.hno A1 A2 c1 c2 Q.ready Q.aA Q.ws w h1 h2 hQ hQ;rw [show iw ⟨Q.ep,Q.nx,Q.gv,Q.ready,Q.aA,Q.ws⟩ ⟨x.kind,x.producer,x.id,x.body,x.aG,x.hno⟩=R from hR] at HD;refine jI 5 rfl eQ (HD A1 A2 c1 c2 _ (St.bJ 3 D5 rfl) (St.bJ 4 D5 rfl)) ?_;rintro _ atf ⟨A97,c98,A99,aAt,rfl,aAu⟩;refine ⟨_,rfl,?_⟩;have tu:=D5.ext aAu rfl;clear HD;refine aL 6 ?_;refine aU 11 ?_;refine gW (i:=11) rfl rfl (V:=λb=>pV b 0) (row:=bI 0 0 0 (.slice none 0 0) (.slice none 0 0) fF) (t:=47) tu (wn rfl) rfl rfl (dO rfl (Tryz.zeroValue47 _) rfl) ?_;intro aAv atg Dq;refine cO ?_;refine aU 13 ?_;refine Lf 13 rfl 0 Dq kQ ?_;intro R8 mG;refine cO ?_;refine aU 14 ?_;refine sn 14 rfl 3 mG kQ ?_;intro ah6 qc;refine aL 4 ?_;have wP:=qc.eG [8,8,8,8,8,7,7,7,8];refine bX (aAv,b94,A97,c98,A99,aAt) ?_ rP;exact wP
  refine gW (i:=11) rfl rfl (V:=λb=>pV b 0) (row:=bI 0 0 0 (.slice none 0 0) (.slice none 0 0) fF) (t:=47) D5 (wn rfl) rfl rfl (dO rfl (Tryz.zeroValue47 _) rfl) ?_;intro aAw ath AQ;refine cO ?_;refine aU 5 ?_;have HD:=λA1 A2 c1 c2 w h1 h2=>mO Q.ep Q.nx Q.gv x.kind x.producer x.id x.body x.aG x.hno A1 A2 c1 c2 Q.ready Q.aA Q.ws w h1 h2 hQ hQ;rw [show iw ⟨Q.ep,Q.nx,Q.gv,Q.ready,Q.aA,Q.ws⟩ ⟨x.kind,x.producer,x.id,x.body,x.aG,x.hno⟩=R from hR] at HD;refine jI 5 rfl eQ (HD A1 A2 c1 c2 _ (St.bJ 4 AQ rfl) (St.bJ 5 AQ rfl)) ?_;rintro _ an1 ⟨an2,an3,an4,an5,rfl,aAx⟩;refine ⟨_,rfl,?_⟩;have R9:=AQ.ext aAx rfl;clear HD;refine aL 6 ?_;refine aU 13 ?_;refine Lf 13 rfl 2 R9 kQ ?_;intro an6 GR;refine cO ?_;refine aU 14 ?_;refine sn 14 rfl 3 GR kQ ?_;intro abo E9;refine aL 4 ?_;have Dr:=E9.eG [8,8,8,8,8,6,6,7,8];refine bX (aAw,b94,an2,an3,an4,an5) ?_ rP;exact Dr
 rintro ⟨aAy,ah7,abf,abg,Jf,c146⟩ ati Dt
 try dsimp only at Dt
 refine aZ (l':=[(0,pV g 0),(4,.bool false),(5,pV aAy 0),(6,pV ah7 0),(7,.bool R.2.2.1),(8,iV R.2.2.2)]) rP (aH (aH (ay (vm ?_))));by_cases h1:R.2.2.2=0
 ·refine zN 3 ?_
  cases h2:R.2.2.1
  ·refine zN 13 ?_;rw [show iw Q x=R from hR];have AP:=Dt.aP [8,7,6,5,4,3,2,1,0];exact ⟨λh=>absurd h (λh=>by rw [h2] at h;exact absurd h.2 iQ),λ_=>⟨rfl,AP⟩⟩
  refine zN 13 ?_;refine jD 5 Dt kQ ?_ (h1:=by exact xG rfl rfl) (hs:=by exact akW);intro ata Oo;refine zN 3 ?_;have Jb:=Oo.drew;refine fC 11 8 Jb [8] ?_;iterate 6 refine gU ?_
  refine fq (m:=4) (r:=6) kQ ?_;refine mo (i:=6) rfl rfl (V:=λb=> .slice (aD b 0) 1 1) (row:= #[iV R.2.1.code,iV R.2.1.eF,iV R.2.1.hno,iV R.2.1.body]) (t:=67) Jb (wn rfl) rfl rfl (aS (vs:=[(0,.agg #[iV R.2.1.code,iV R.2.1.eF,iV R.2.1.hno,iV R.2.1.body])]) rfl xU kQ) ?_;intro aJn aAz abp;refine gU ?_;refine fq (m:=3) (r:=7) kQ ?_;refine kN (i:=7) rfl rfl (news:=[iV R.2.1.code,iV R.2.1.eF,iV R.2.1.hno,iV R.2.1.body]) (xs':=(an++[R.2.1]).flatMap iM.cells) 9 abp (wn rfl) rfl rfl rfl rfl rfl rfl (St.lD (xs:=[iV R.2.1.code,iV R.2.1.eF,iV R.2.1.hno,iV R.2.1.body]) 0 abp rfl rfl rfl) Tryz.underlying83 aqf rfl dQ (bM rfl) lQ oQ (iU (enc:=iM.cells) rfl rfl) ?_;intro atj atl atm aGg aGh zl;refine gU ?_;refine eU kQ rfl rfl rfl ?_;refine zN 2 ?_;refine jD (row':=Je R.1.ep R.1.nx R.1.gv (.slice abf R.1.ready.length abg) (.slice Jf R.1.aA.length c146) R.1.ws (.slice atj (an.length+1) atl)) 6 zl kQ ?_;intro ah5 GQ;refine zQ ?_;refine iY ?_;refine zN 8 ?_;rw [show iw Q x=R from hR];have WK:=GQ.aP [8,7,5,2,1,0];have WM:=WK.eG [3,2,2,3];have hal:(an++[R.2.1]).length=an.length+1:=by simp
  refine ⟨λ_=>⟨rfl,abf,abg,Jf,c146,atj,atl,?_⟩,λh=>absurd ⟨h1,h2⟩ h⟩;unfold oW;rw [hal];exact WM
 refine zN 16 ?_;rw [show iw Q x=R from hR];have zm:=Dt.aP [8,7,6,5,4,3,2,1,0];exact ⟨λh=>absurd h (λh=>h1 h.1),λ_=>⟨rfl,zm⟩⟩
theorem Lh {l:List Ev} (h: ¬ (av l).2.2=0):(av l).1=bS/\(av l).2.1=[]:=by
 by_cases hl:2000<l.length
 ·rw [Oj hl];exact ⟨rfl,rfl⟩
 cases hg:gX bS [] l with
 | none=>rw [Kl hl hg];exact ⟨rfl,rfl⟩
 | some r=>rw [EY hl hg] at h;exact absurd rfl h
theorem Li (A:Option Addr) (c:Nat) (l:List Ev) (w:World) (h:Rd w w.heap.size 6 A l.length (bg l)) (hl:l.length<=1152921504606846976):
    Calls Tryz.prog 18 #[.slice A l.length c] w (agu w (av l)):=by
 have S:=(St.start w).bL h;refine gu 24 Tryz.func18 ?_;refine cw [0] ?_;refine zN 11 ?_;by_cases h1:2000< ((l.length:Nat):Int)
 ·refine zN 13 ?_;rw [Oj oQ];exact ⟨λh=>absurd h dQ,λ_=>⟨rfl,S.low⟩⟩
 refine zN 2 ?_;refine afQ (vv (v:= .agg (Je 0 0 0 (.slice none 0 0) (.slice none 0 0) fF (.slice none 0 0))) yz ?_);refine iH S ?_;intro b2 w3 S4;refine zN 12 ?_;have S5:=aB (s:=2) (aB (s:=4) (S4.nil 67 4));have S6:St w.heap.size w w3 [_,_,_,_,_]:=S5.re [3,0,1,2,4] dQ;refine dN (X:=Nat×Qd×(List iM)×(Option Addr)×Nat×(Option Addr)×Nat×(Option Addr)×Nat) (λxv=>[(2,.pointer none),(3,iV 0),(4,pV b2 0),(12,.slice A l.length c),(13,iV ((l.length:Nat):Int)),(14,iV ((xv.1:Nat):Int))]) (λxv wr=>(xv.1<=l.length)/\(gX bS [] l=gX xv.2.1 xv.2.2.1 (l.drop xv.1))/\(xv.2.1.ready.length+xv.2.1.aA.length<=501)/\(xv.2.2.1.length=xv.1)/\St w.heap.size w wr [.blk b2 (Je xv.2.1.ep xv.2.1.nx xv.2.1.gv (.slice xv.2.2.2.1 xv.2.1.ready.length xv.2.2.2.2.1) (.slice xv.2.2.2.2.2.1 xv.2.1.aA.length xv.2.2.2.2.2.2.1) xv.2.1.ws (.slice xv.2.2.2.2.2.2.2.1 xv.2.2.1.length xv.2.2.2.2.2.2.2.2)) 85,.bJ 2 xv.2.2.2.1 xv.2.1.ready.length ((xv.2.1.ready).flatMap eH.cells),.bJ 4 xv.2.2.2.2.2.1 xv.2.1.aA.length ((xv.2.1.aA).flatMap Ls.cells),.own 67 4 (.slice xv.2.2.2.2.2.2.2.1 xv.2.2.1.length xv.2.2.2.2.2.2.2.2) xv.2.2.1.length ((xv.2.2.1).flatMap iM.cells),.rd 6 A l.length ((l).flatMap Ev.cells)]) (λxv=>l.length-xv.1) (0,bS,[],none,0,none,0,none,0) ?_ ?_ ?_
 ·exact ⟨Nat.zero_le _,rfl,(by simp [bS]),rfl,S6⟩
 ·exact rP
 rintro ⟨k,Q,an,A1,c1,A2,c2,A3,c3⟩ w7 ⟨hi9,oz,Mh,atn,S8⟩
 try dsimp only at hi9 oz Mh atn S8
 refine aZ (l':=[(2,.pointer none),(3,iV 0),(4,pV b2 0),(12,.slice A l.length c),(13,iV ((l.length:Nat):Int)),(14,iV ((k:Nat):Int))]) rP (aH (ay ?_));by_cases pR:((k:Nat):Int)< ((l.length:Nat):Int)
 ·refine zN 11 ?_;obtain ⟨b14,o15,rfl⟩:=Rd.addr (St.rd 4 S8 rfl) oQ;obtain ⟨JQ,WO⟩:=DT k (St.rd 4 S8 rfl) oQ;refine vv (jf k) ?_;refine vv (aj rfl rfl (cZ (cs:=Ev.cells JQ) (Rd.uq (St.rd 4 S8 rfl) (λ_ _ h=>aW (enc:=Ev.cells) (sz:=6) (λ_=>rfl) WO h)))) ?_;refine gq S8 aaI ?_;intro b18 FX mM;refine sa 0 mM kQ ?_;intro DW iX;refine zN 6 ?_;have oh:St w.heap.size w DW [_,_,_,_,_,_]:=iX.re [1,2,3,4,0,5] dQ;obtain ⟨R,hR⟩: ∃ R,iw Q JQ=R:=⟨_,rfl⟩;have HA:=abk (fs:=[.blk b18 #[iV JQ.kind,iV JQ.producer,iV JQ.id,iV JQ.body,iV JQ.aG,iV JQ.hno] 65,.rd 6 (aD b14 o15) l.length ((l).flatMap Ev.cells)]) (x:=JQ) (show St _ _ _ (oW _ _ _ _ _ _ _ _ _ _) from oh) Mh oQ;rw [hR] at HA;by_cases hok:R.2.2.2=0/\R.2.2.1=true
  ·refine dF eQ (HA.mono λ_ _ h=>h.1 hok) ?_;rintro _ Oq ⟨rfl,A26,c27,A28,c29,om,c31,jE⟩;refine ⟨_,rfl,?_⟩;clear HA;refine zN 8 ?_;refine vv (v:=iV ((k+1:Nat):Int)) fJ ?_;refine zN 2 ?_;have pU:St w.heap.size w Oq [_,_,_,_,_]:=jE.re [0,1,2,3,5] dQ;refine aM (k+1,R.1,an++[R.2.1],A26,c27,A28,c29,om,c31) ?_ rP (by first | omega | (dsimp only;omega));exact ⟨uQ,(by dsimp only;rw [oz,UH WO (by rw [hR];exact hok.1) (by rw [hR];exact hok.2),hR]),by dsimp only;exact hR▸Ol (by rw [hR];exact hok.1),(by dsimp only;rw [List.length_append,atn];rfl),pU⟩
  refine dF eQ (HA.mono λ_ _ h=>h.2 hok) ?_;rintro _ ZA ⟨rfl,qo⟩;refine ⟨_,rfl,?_⟩;clear HA;refine zN 17 ?_;rw [Kl oQ (by rw [oz];exact UJ WO (by rw [hR];exact hok))];exact ⟨λh=>absurd h dQ,λ_=>⟨rfl,qo.low⟩⟩
 refine zN 19 ?_;have JL:St w.heap.size w w7 [_,_,_,_]:=S8.re [0,1,2,3] dQ;rw [EY (r:=(Q,an)) oQ (by rw [oz];exact X9 oQ)];exact ⟨λ_=>⟨b2,A1,c1,A2,c2,A3,c3,rfl,JL⟩,λh=>absurd rfl h⟩
theorem zS (A:Option Addr) (c:Nat) (l:List Ev) (w:World) (h:Rd w w.heap.size 6 A l.length (bg l)) (hl:l.length<=1152921504606846976):
    Calls Tryz.prog 11 #[.slice A l.length c] w (Yc w (av l)):=by
 have S:=(St.start w).bL h;refine gu 19 Tryz.func11 ?_;refine cw [0] ?_;refine zN 2 ?_;refine jC (V:=λb=>pV b 0) (row:=bI 0 0 0 (.slice none 0 0) (.slice none 0 0) fF) (t:=47) S (wn rfl) rfl rfl (dO rfl (Tryz.zeroValue47 _) rfl) ?_;intro b1 w2 S3;refine zN 6 ?_;have HT:=λw h=>Li A c l w h hl;by_cases ht:(av l).2.2=0
 ·refine dF eQ ((HT _ (St.rd 1 S3 rfl)).mono λ_ _ h=>h.1 ht) ?_;rintro _ w4 ⟨b7,A8,c9,EA,c11,Q0,c13,rfl,T6⟩;refine ⟨_,rfl,?_⟩;unfold oW at T6;have S5:=S3.ext T6 rfl;clear HT T6 S3;change St _ _ _ [.blk b7 (Je ((av l).1.ep) ((av l).1.nx) ((av l).1.gv) (.slice A8 ((av l).1.ready.length) c9) (.slice EA ((av l).1.aA.length) c11) ((av l).1.ws) (.slice Q0 ((av l).2.1.length) c13)) 85,.bJ 2 A8 ((av l).1.ready.length) (((av l).1.ready).flatMap eH.cells),.bJ 4 EA ((av l).1.aA.length) (((av l).1.aA).flatMap Ls.cells),.own 67 4 (.slice Q0 ((av l).2.1.length) c13) ((av l).2.1.length) (((av l).2.1).flatMap iM.cells),.blk b1 (bI 0 0 0 (.slice none 0 0) (.slice none 0 0) fF) 47,.rd 6 A l.length ((l).flatMap Ev.cells)] at S5;refine zN 22 ?_;refine vv (aj rfl rfl (cZ (cs:=(bI ((av l).1.ep) ((av l).1.nx) ((av l).1.gv) (.slice A8 ((av l).1.ready.length) c9) (.slice EA ((av l).1.aA.length) c11) ((av l).1.ws)).toList) (St.rg 0 S5 rfl (aeH)))) ?_;refine saq 4 S5 kQ ?_;intro JO iG;refine zN 5 ?_;have lV:St w.heap.size w JO [_,_]:=iG.re [1,2] dQ;refine ⟨A8,c9,EA,c11,?_,lV⟩;rw [ht];rfl
 refine dF eQ ((HT _ (St.rd 1 S3 rfl)).mono λ_ _ h=>h.2 ht) ?_;rintro _ Lb ⟨rfl,T19⟩;refine ⟨_,rfl,?_⟩;have jc:=S3.on T19;clear HT T19 S3;change St _ _ _ [.blk b1 (bI 0 0 0 (.slice none 0 0) (.slice none 0 0) fF) 47,.rd 6 A l.length ((l).flatMap Ev.cells)] at jc;refine zN 13 ?_;refine C8 (vv (v:= .agg (bI 0 0 0 (.slice none 0 0) (.slice none 0 0) fF)) yz ?_);refine zQ ?_;refine saq 0 jc kQ ?_;intro ZF tZ;refine zN 6 ?_;have iX:=tZ.aP [1,0];have hz:=Lh ht;refine ⟨none,0,none,0,?_,?_⟩
 · rw [hz.1];rfl
 · rw [hz.1];exact Kn iX
theorem Nl (A:Option Addr) (c:Nat) (l:List Ev) (w:World) (h:Rd w w.heap.size 6 A l.length (bg l)) (hl:l.length<=1152921504606846976):
    Calls Tryz.prog 94 #[.slice A l.length c] w (UM w (av l)):=by
 have S:=(St.start w).bL h;refine gu 18 Tryz.func94 ?_;refine cw [0] ?_;refine zN 9 ?_;have HT:=λw h=>Li A c l w h hl;by_cases ht:(av l).2.2=0
 ·refine dF eQ ((HT _ (St.rd 0 S rfl)).mono λ_ _ h=>h.1 ht) ?_;rintro _ w1 ⟨b4,A5,c6,A7,c8,A9,c10,rfl,T3⟩;refine ⟨_,rfl,?_⟩;unfold oW at T3;have S2:=S.ext T3 rfl;clear HT T3 S;refine zN 29 ?_;have qI:St w.heap.size w w1 [_]:=S2.re [3] dQ;have l5:=qI.bD 0 rfl;refine ⟨A9,c10,?_,l5⟩;rw [ht];rfl
 refine dF eQ ((HT _ (St.rd 0 S rfl)).mono λ_ _ h=>h.2 ht) ?_;rintro _ Ey ⟨rfl,T15⟩;refine ⟨_,rfl,?_⟩;have kD:=S.on T15;clear HT T15 S;refine zN 25 ?_;have lV:=kD.aP [0];have hz:=Lh ht;refine ⟨none,0,?_,?_⟩
 · rw [hz.2];rfl
 · rw [hz.2];exact aB lV
theorem Nn (A:Option Addr) (n c:Nat) (l:List Value) (w:World) (h:Rd w w.heap.size 6 A n l) (hone: ∀ u∈l,u.oneCell'=true) (hc:n*64<=reachBytes):
    Calls Tryz.prog 70 #[.slice A n c] w (jq w 57 6 n l):=by
 unfold reachBytes at hc;have S:=(St.start w).bL h;refine gu 8 Tryz.func70 ?_;refine cw [0] ?_;refine zN 9 ?_
 cases A with
 | none=>
  obtain ⟨rfl,rfl⟩:=I9 h;refine vv (v:= .bool true) (bE rfl rfl rfl (vN Tryz.underlying58)) ?_;refine zN 11 ?_;exact jq.of (Below.refl _ _) (jg _ _ _ _)
 | some a=>
  refine vv (v:= .bool false) (bE rfl rfl rfl (vN Tryz.underlying58)) ?_;refine zN 7 ?_;refine oM (V:=λb=> .slice (aD b 0) 0 0) (row:= #[]) (t:=57) (n:=0) (s:=6) (xs:=[]) S (wn rfl) rfl rfl (aS (vs:=[]) rfl trivial kQ) iQ (Nat.zero_le _) rfl ?_;intro b1 w2 S3;refine zQ ?_;refine dx (news:=l) (xs':=l) 0 S3 (wn rfl) rfl rfl rfl rfl rfl rfl (St.rd 1 S3 rfl) Tryz.underlying58 apR rfl dQ hone lQ oQ rfl ?_;intro A4 c5 w6 hc8 qV S7;refine zN 5 ?_;have qx:=S7.aP [1];have ho:=qx.own 0 rfl;simp only [Nat.zero_add] at ho⊢;exact jq.of qx.low ho
theorem St.jN {B:Nat} {w0 w:World} {fs:List Fact} {b n s:Nat} {row:Array Value} {t:TypeId} {xs:List Value} (i:Nat) (S:St B w0 w fs) (hi:fs[i]? =some (.blk b row t)) (hx:row.toList=xs) (hl:xs.length=n*s):St B w0 w (fs.set i (.bJ s (some ⟨b,0,none⟩) n xs)):=
 St.turn i S hi S.low (Nat.le_refl _) (λ_ _ _=>rfl) ⟨St.lD i S hi hx hl,λa h=>by cases h;exact ⟨St.ge i S hi,St.lt i S hi⟩⟩ (λk hk=> .inl hk)
def dz (g:Nat) (p:Nat×Int):List Value:=[.pointer (some ⟨g,p.1,none⟩),.int .i64 p.2]
def bT (kd ek:Int):ByteArray:=
 if kd=1 then ⟨#[109,97,107,101]⟩ else if kd=10 then ⟨#[109,111,118,101]⟩ else if kd=3 then ⟨#[115,116,101,112]⟩ else if kd=9 then ⟨#[115,116,97,114,116]⟩ else if kd=8 then ⟨#[99,114,97,115,104]⟩
 else if kd=4 then ⟨#[99,97,114,114,121]⟩ else if kd=5 then ⟨#[108,111,115,101]⟩ else if kd=6 then ⟨#[100,111,117,98,108,101]⟩ else if kd=7 then ⟨#[97,108,108]⟩
 else if kd=2 then (if ek=1 then ⟨#[112,117,98,108,105,115,104]⟩ else if ek=2 then ⟨#[114,101,99,101,105,118,101]⟩ else if ek=3 then ⟨#[97,99,107]⟩ else ⟨#[]⟩) else ⟨#[]⟩
def agv (w:World) (g:Nat) (u:ByteArray) (r:Option (List (Nat×Int))) (e:Ending) (w':World):Prop:=match r with
 | none=>e= .returned (.tuple #[.string u,.slice none 0 0,.bool false])/\Below w.heap.size w w'
 | some l=> ∃ A,e= .returned (.tuple #[.string u,.slice A l.length l.length,.bool true])/\St w.heap.size w w' [.bJ 2 A l.length (l.flatMap (dz g))]
theorem Ac.amL (x:Ac) {i:Nat} (h:i<11):x.cells.toArray[i]? =some (.int .i64 (x.get i)):=by rw [List.getElem?_toArray];exact x.cell h
instance:Am Ac where
 size:=11
 ints x:=x.ints
 of l:=⟨l.getD 0 0,l.getD 1 0,l.getD 2 0,l.getD 3 0,l.getD 4 0,l.getD 5 0,l.getD 6 0,l.getD 7 0,l.getD 8 0,l.getD 9 0,l.getD 10 0⟩
 pos:=oQ
 len _:=rfl
 inv xs h:=by
  obtain ⟨a1,xs,rfl⟩:=List.exists_cons_of_length_eq_add_one h;obtain ⟨a2,xs,rfl⟩:=List.exists_cons_of_length_eq_add_one (Nat.succ.inj h);have h:=Nat.succ.inj (Nat.succ.inj h);obtain ⟨a3,xs,rfl⟩:=List.exists_cons_of_length_eq_add_one h;obtain ⟨a4,xs,rfl⟩:=List.exists_cons_of_length_eq_add_one (Nat.succ.inj h);have h:=Nat.succ.inj (Nat.succ.inj h);obtain ⟨a5,xs,rfl⟩:=List.exists_cons_of_length_eq_add_one h;obtain ⟨a6,xs,rfl⟩:=List.exists_cons_of_length_eq_add_one (Nat.succ.inj h);have h:=Nat.succ.inj (Nat.succ.inj h);obtain ⟨a7,xs,rfl⟩:=List.exists_cons_of_length_eq_add_one h;obtain ⟨a8,xs,rfl⟩:=List.exists_cons_of_length_eq_add_one (Nat.succ.inj h);have h:=Nat.succ.inj (Nat.succ.inj h);obtain ⟨a9,xs,rfl⟩:=List.exists_cons_of_length_eq_add_one h;obtain ⟨a10,xs,rfl⟩:=List.exists_cons_of_length_eq_add_one (Nat.succ.inj h);have h:=Nat.succ.inj (Nat.succ.inj h);obtain ⟨a11,xs,rfl⟩:=List.exists_cons_of_length_eq_add_one h;obtain rfl:=List.eq_nil_of_length_eq_zero (Nat.succ.inj h);rfl
end
end Go.Proofs.YtlfgjcahpppbbaaGreatDoor
