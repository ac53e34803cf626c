import Derived.Shelf.SlSortCmp.WholeK
import Derived.Shelf.SlSortCmp.NoneTotal
import Derived.Maps.OwnSet
import Derived.Lib.SliceRun
import Derived.Deep.RegionLaw
import Derived.Deep.RegionWith
import Derived.Test.YtefabpdniidmbaaGreatDoorG949d7
set_option linter.all false
set_option maxRecDepth 100000
set_option maxHeartbeats 8000000
namespace Go.Proofs.YtefabpdniidmbaaGreatDoor
open List Nat Go.Proofs.Tryz ChangeShapes WideShapes RowKit
def tU1{Aa:Type}{a:Aa}:a=a/\True:=⟨E,trivial⟩
def zL{Aa Ab:Type}{a:Aa}{b:Ab}:a=a/\b=b/\True:=⟨E,E,trivial⟩
def Ip{Aa Ab Ac:Type}{a:Aa}{b:Ab}{c:Ac}:a=a/\b=b/\c=c/\True:=⟨E,E,E,trivial⟩
def lU{Aa Ab Ac Ad:Type}{a:Aa}{b:Ab}{c:Ac}{d:Ad}:a=a/\b=b/\c=c/\d=d/\True:=⟨E,E,E,E,trivial⟩
def CO{Aa Ab Ac Ad Ae:Type}{a:Aa}{b:Ab}{c:Ac}{d:Ad}{e:Ae}:a=a/\b=b/\c=c/\d=d/\e=e/\True:=⟨E,E,E,E,E,trivial⟩
def uV{Aa Ab Ac Ad Ae Af:Type}{a:Aa}{b:Ab}{c:Ac}{d:Ad}{e:Ae}{f:Af}:a=a/\b=b/\c=c/\d=d/\e=e/\f=f/\True:=⟨E,E,E,E,E,E,trivial⟩
def Fj{Aa Ab Ac Ad Ae Af Ag:Type}{a:Aa}{b:Ab}{c:Ac}{d:Ad}{e:Ae}{f:Af}{g:Ag}:a=a/\b=b/\c=c/\d=d/\e=e/\f=f/\g=g/\True:=⟨E,E,E,E,E,E,E,trivial⟩
def YH{Aa Ab Ac Ad Ae Af Ag Ah:Type}{a:Aa}{b:Ab}{c:Ac}{d:Ad}{e:Ae}{f:Af}{g:Ag}{h:Ah}:a=a/\b=b/\c=c/\d=d/\e=e/\f=f/\g=g/\h=h/\True:=⟨E,E,E,E,E,E,E,E,trivial⟩
def tU9{Aa Ab Ac Ad Ae Af Ag Ah Ai:Type}{a:Aa}{b:Ab}{c:Ac}{d:Ad}{e:Ae}{f:Af}{g:Ag}{h:Ah}{i:Ai}:a=a/\b=b/\c=c/\d=d/\e=e/\f=f/\g=g/\h=h/\i=i/\True:=⟨E,E,E,E,E,E,E,E,E,trivial⟩
def avV{Aa Ab Ac Ad Ae Af Ag Ah Ai Aj:Type}{a:Aa}{b:Ab}{c:Ac}{d:Ad}{e:Ae}{f:Af}{g:Ag}{h:Ah}{i:Ai}{j:Aj}:a=a/\b=b/\c=c/\d=d/\e=e/\f=f/\g=g/\h=h/\i=i/\j=j/\True:=⟨E,E,E,E,E,E,E,E,E,E,trivial⟩
def bU(l:List Ev):List Value:=l.flatMap Ev.cells
def gX(l:List Ev):∀u∈bU l,u.oneCell'=true:=by
 intro u h;simp only[bU,mem_flatMap,Ev.cells]at h;obtain⟨e,_,h⟩:=h;simp only[mem_cons,not_mem_nil,or_false]at h
 rcases h with rfl|rfl|rfl|rfl|rfl|rfl<;>rfl
def NC(a b:Nat)(h:a<4611686018427387904)(I:b<4611686018427387904):bits .or .i64 (a:Int) (b:Int)=((a ||| b:Nat):Int):=by
 have J:a ||| b<2 ^ 62:=or_lt_two_pow Y Y
 show IntKind.i64.wrap ((BitVec.ofInt 64 (a:Int) ||| BitVec.ofInt 64 (b:Int)).toNat:Int)=_
 rw[BitVec.toNat_or,ofInt_u64 a Y,ofInt_u64 b Y,IntKind.wrap_i64];omega
def ahi(v x i:Nat)(h:x<2 ^ i):(v*2 ^ i) ||| x=v*2 ^ i+x:=by
 rw[<-shiftLeft_eq,shiftLeft_add_eq_or_of_lt h]
def or8(v x:Int)(I:0<=v)(h1:v<=1099511627776)(J:0<=x)(M:x<=255):bits .or .i64 (v*256) x=v*256+x:=by
 obtain⟨a,rfl⟩:=pQ I;obtain⟨b,rfl⟩:=pQ J;have e:((a:Int)*256)=((a*256:Nat):Int):=Y;have h:=ahi a b 8 Y;rw[e,NC _ _ Y Y];simp only[reducePow]at h;rw[h];omega
def aC3(v x:Int)(I:0<=v)(h1:v<=1099511627776)(J:0<=x)(M:x<=65535):bits .or .i64 (v*65536) x=v*65536+x:=by
 obtain⟨a,rfl⟩:=pQ I;obtain⟨b,rfl⟩:=pQ J;have e:((a:Int)*65536)=((a*65536:Nat):Int):=Y;have h:=ahi a b 16 Y;rw[e,NC _ _ Y Y];simp only[reducePow]at h;rw[h];omega
def aC4(x:Int)(h:0<=x)(I:x<=255):bits .or .i64 0 x=x:=by
 have:=or8 0 x Y Y h I;simpa using this
section
open ChangeAt
def kN{l:P7}{x:Operand}{v:Value}(h:ev l x=some v):EvO l (some x) (some v):=h
def qG{l:P7}:EvO l none none:=trivial
def atW{kd:IntKind}{a b:Int}(h:a=b):some (Value.int kd a)=some (Value.int kd b):=by rw[h]
section
variable {P:Program}{w:World}{t e:TypeId}{A:Option Addr}{n c s B:Nat}{xs:List Value}{kd ke kf:IntKind}
def sO{i:Int}(k y:Nat)(code:BoundsCode)(h:i=k)(I:k<=y)(w:World):(Instr.sliceBound (.int kd i) y code).run P w=.ok k w:=by
 subst h;have h1:(0:Int)<=k/\(k:Int)<=y:=Y;simp[Instr.sliceBound,asIntOf,Sem.run_bind,Result.andThen,h1,I]
def akA{i:Int}(l:Nat)(hi:i=l)(h:l<=n)(w:World):(Instr.sliceBounds true n c (some (.int kd i)) none none).run P w=.ok (l,n,c) w:=by
 simp[Instr.sliceBounds,Sem.run_bind,Result.andThen,sO l n _ hi h]
def aC5{i:Int}(k:Nat)(hi:i=k)(h:k<=c)(w:World):(Instr.sliceBounds true n c none (some (.int kd i)) none).run P w=.ok (0,k,c) w:=by
 simp[Instr.sliceBounds,Sem.run_bind,Result.andThen,sO k c _ hi h]
def Zl{i j:Int}(l k:Nat)(hi:i=l)(J:j=k)(I:l<=k)(h:k<=c)(w:World):(Instr.sliceBounds true n c (some (.int kd i)) (some (.int ke j)) none).run P w=.ok (l,k,c) w:=by
 simp[Instr.sliceBounds,Sem.run_bind,Result.andThen,sO k c _ J h,sO l k _ hi I]
def apm{j m:Int}(k q:Nat)(J:j=k)(M:m=q)(I:k<=q)(h:q<=c)(w:World):(Instr.sliceBounds true n c none (some (.int ke j)) (some (.int kf m))).run P w=.ok (0,k,q) w:=by
 simp[Instr.sliceBounds,Sem.run_bind,Result.andThen,sO q c _ M h,sO k q _ J I]
def ahj{i j m:Int}(l k q:Nat)(hi:i=l)(M:j=k)(O:m=q)(I:l<=k)(J:k<=q)(h:q<=c)(w:World):(Instr.sliceBounds true n c (some (.int kd i)) (some (.int ke j)) (some (.int kf m))).run P w=.ok (l,k,q) w:=by
 simp[Instr.sliceBounds,Sem.run_bind,Result.andThen,sO q c _ O h,sO k q _ M J,sO l k _ hi I]
def add_block(a:Addr)(k:Nat):a.block=(a.add k).block:=by
 unfold Addr.add
 split<;>rfl
def D9{lo hi mx:Option Value}{l k q:Nat}(J:P.underlying t=some (.slice e))(Z:(P.info? e).map (·.size)=some s)(O:∀w,(Instr.sliceBounds true n c lo hi mx).run P w=.ok (l,k,q) w)(hlk:l<=k)(hkn:k<=n)(hkq:k<=q):
 ∃A',(∀w,(Instr.sliceAt t (.slice A n c) lo hi mx).run P w=.ok (.slice A' (k-l) (q-l)) w)/\(∀(w:World) (B:Nat) (xs:List Value),Rd w B s A n xs->Rd w B s A' (k-l) ((xs.drop (l*s)).take ((k-l)*s)))/\ ∀M,A'=some M-> ∃a,A=some a/\a.block=M.block:=by
 obtain⟨z,hq,hs⟩:∃z,P.info? e=some z/\z.size=s:=by
  cases h:P.info? e with
  |none=>simp[h]at Z
  |some z=>exact⟨z,E,by simpa[h]using Z⟩
 refine⟨if q=l then A else A.map (·.add (l*s)),λw=>?_,?_,?_⟩
 ·have h1:(sizeOf e).run P w=.ok s w:=by simp[sizeOf,typeInfo,hq,hs,Sem.run_bind,Result.andThen]
  simp[Instr.sliceAt,Instr.slice,run_underlying J,Sem.run_bind,Result.andThen,O,h1]
 ·intro w B xs hR;refine⟨?_,λhn=>?_⟩
  ·rw[eD,dO,hR.1,<-FY];exact KT (Ay _ Y)
  obtain⟨b,off,rfl,O,I⟩:=hR.2 Y;rw[ah Y];refine⟨b,off+l*s,?_,O,λj u J=>?_⟩
  ·simp only[Option.map_some,Option.some.injEq];rw[Go.WideShapes.add_plain]
  rw[kR];refine I _ u ?_;have hj:j< (k-l)*s:=by
   have:=(dw.1 J).1;rw[eD]at this;omega
  rw[xY hj,Dm]at J;exact J
 intro M h
 split at h
 ·exact⟨M,h,E⟩
 cases A with
 |none=>cases h
 |some a=>cases h;exact⟨a,E,add_block a _⟩
def adO{lo hi mx:Option Value}{l k q:Nat}(O:P.underlying t=some (.slice e))(Z:(P.info? e).map (·.size)=some s)(hb:∀w,(Instr.sliceBounds true n c lo hi mx).run P w=.ok (l,k,q) w)(hR:Rd w B s A n xs)(h:l<=k)(I:k<=n)(J:k<=q):
 ∃A',(∀w,(Instr.sliceAt t (.slice A n c) lo hi mx).run P w=.ok (.slice A' (k-l) (q-l)) w)/\Rd w B s A' (k-l) ((xs.drop (l*s)).take ((k-l)*s))/\ ∀M,A'=some M-> ∃a,A=some a/\a.block=M.block:=by
 obtain⟨A',h1,h2,h3⟩:=D9 (A:=A) O Z hb h I J;exact⟨A',h1,h2 _ _ _ hR,h3⟩
def aiG{lo hi mx:Option Value}{l k q:Nat}(M:P.underlying t=some (.slice e))(O:(P.info? e).map (·.size)=some s)(Z:∀w,(Instr.sliceBounds true n c lo hi mx).run P w=.ok (l,k,q) w)(hR:Rd w B s A n xs)(h:l<=k)(I:k<=n)(J:k<=q):
 ∃A',(∀w,(Instr.sliceAt t (.slice A n c) lo hi mx).run P w=.ok (.slice A' (k-l) (q-l)) w)/\Rd w B s A' (k-l) ((xs.drop (l*s)).take ((k-l)*s)):=by
 obtain⟨A',h1,h2,_⟩:=adO M O Z hR h I J;exact⟨A',h1,h2⟩
def apn{x y:Int}{ts:Array TypeId}{ty:TypeId}{cs:Array Bool}:(builtin .min ts ty cs #[.int kd x,.int kd y]).run P w=.ok (.value (.int kd (min x y))) w:=by
 have:(if y<x then y else x)=min x y:=by split<;>omega
 simp[builtin,run_min_int2,Sem.run_bind,Result.andThen,this]
def YI{x y:Nat}{ts:Array TypeId}{ty:TypeId}{cs:Array Bool}:(builtin .min ts ty cs #[.int kd x,.int kd y]).run P w=.ok (.value (.int kd ((min x y:Nat):Int))) w:=by
 rw[apn,show min (x:Int) (y:Int)=((min x y:Nat):Int) by omega]
def Dx{op:BinOp}{xo yo:Operand}{a b:Array Value}{v:Value}(I:P.eqGuardType P.depth t=false)(h:(binOp op t (.agg a) (.agg b)).run P w=.ok v w):(do eqGuard op t xo yo (.agg a) (.agg b);binOp op t (.agg a) (.agg b):Sem Value).run P w=.ok v w:=by
 have h1:(eqGuard op t xo yo (.agg a) (.agg b)).run P w=.ok () w:=by
  have J:∀w,(program:Sem Program).run P w=.ok P w:=λ_=>E;unfold eqGuard
  cases op<;>first|rfl|simp[J,Sem.run_bind,Result.andThen,I]
 rw[Sem.run_bind,h1];exact h
def adP{s t:TypeId}{k:IntKind}{x:Int}(hs:(P.underlying s).isSome=true)(h:P.underlying t=some (.int k)){z:Int}(I:k.wrap x=z):(convert s t (.int kd x)).run P w=.ok (.int k z) w:=by
 obtain⟨ds,hs⟩:=Option.isSome_iff_exists.1 hs;subst I;simp[convert,Sem.run_bind,run_underlying hs,run_underlying h,Result.andThen,Conv.intToInt]
def Uj(a:UInt8):0<=(a.toNat:Int)/\(a.toNat:Int)<=255:=by
 have:=a.toNat_lt;omega
def SL{s t:TypeId}{a:UInt8}(hs:P.underlying s=some (.int .u8))(h:P.underlying t=some (.int .i64)):(convert s t (.int .u8 (a.toNat:Int))).run P w=.ok (D (a.toNat:Int)) w:=
 adP (by rw[hs];rfl) h (UU (by have:=Uj a;omega) (by have:=Uj a;omega))
def ahk{xo yo:Operand}{x z:Int}(h:x*256=z)(I:0<=x)(h1:x<=1099511627776):(do eqGuard .shl t xo yo (D x) (.int .u64 8);binOp .shl t (D x) (.int .u64 8):Sem Value).run P w=.ok (D z) w:=by
 subst h;have:IntKind.i64.wrap (x*256)=x*256:=UU Y Y;simp[binOp,eqGuard_shl,shift_shl_i64,this]
def azE{xo yo:Operand}{v x z:Int}(h:v*256+x=z)(I:0<=v)(h1:v<=1099511627776)(J:0<=x)(M:x<=255):(do eqGuard .or t xo yo (D (v*256)) (D x);binOp .or t (D (v*256)) (D x):Sem Value).run P w=.ok (D z) w:=by
 subst h;have:=or8 v x I h1 J M;simp[binOp,eqGuard_or,intBits_or,this]
def Qz{b:List UInt8}{lo hi mx:Option Value}{l k q m c':Nat}(O:P.underlying t=some (.slice e))(Z:(P.info? e).map (·.size)=some 1)(hb:∀w,(Instr.sliceBounds true b.length c lo hi mx).run P w=.ok (l,k,q) w)(hR:Rd w B 1 A b.length (Jq b))
  (h:l<=k) (I:k<=b.length) (J:k<=q) (hm:k-l=m) (hc:q-l=c'):∃A',(∀w,(Instr.sliceAt t (.slice A b.length c) lo hi mx).run P w=.ok (.slice A' m c') w)/\Rd w B 1 A' m (Jq ((b.drop l).take m)):=by
 subst hm;subst hc;obtain⟨A',h1,M⟩:=aiG O Z hb hR h I J;refine⟨A',h1,?_⟩;rw[Dy,Dy]at M;simpa[Jq,map_drop,map_take]using M
def am7{b:List UInt8}{lo hi mx:Option Value}{l k q m c':Nat}(Z:P.underlying t=some (.slice e))(hz:(P.info? e).map (·.size)=some 1)(hb:∀w,(Instr.sliceBounds true b.length c lo hi mx).run P w=.ok (l,k,q) w)
  (I:l<=k) (J:k<=b.length) (M:k<=q) (hm:k-l=m) (hc:q-l=c'):∃A',(∀w,(Instr.sliceAt t (.slice A b.length c) lo hi mx).run P w=.ok (.slice A' m c') w)/\(∀(w:World) (B:Nat),Rd w B 1 A b.length (Jq b)->Rd w B 1 A' m (Jq ((b.drop l).take m)))/\ ∀O,A'=some O-> ∃a,A=some a/\a.block=O.block:=by
 subst hm;subst hc;obtain⟨A',h1,h,h3⟩:=D9 (A:=A) Z hz hb I J M;refine⟨A',h1,λw B hR=>?_,h3⟩
 replace h:=h w B _ hR
 rw[Dy,Dy]at h;simpa[Jq,map_drop,map_take]using h
end
end
def azF:List Sh:=[.at_ (.int .i64),.at_ .bool,.at_ .bool,.at_ .bool,.at_ .bool,.at_ .bool,.at_ .bool,.at_ .bool,.at_ .bool]
def ny.kd(a:ny):fD Kd a.cells azF:=⟨⟨_,E⟩,⟨_,E⟩,⟨_,E⟩,⟨_,E⟩,⟨_,E⟩,⟨_,E⟩,⟨_,E⟩,⟨_,E⟩,⟨_,E⟩,trivial⟩
section
open ChangeAt
open Go.Sort (flatK HoldsK get_flatK size_flatK)
section
variable {α:Type}[Inhabited α]{enc:α->List Value}{k:Nat}
def abR(M:∀x,(enc x).length=k)(d:Array α){t:Nat}(h:t<d.size*k):(d.toList.flatMap enc)[t]? =some ((flatK enc k d)[t]!):=by
 have I:0<k:=by
  rcases Au k with J|J
  ·subst J;omega
  exact J
 have h1:t / k<d.size:=Nat.div_lt_of_lt_mul (by rw[SN];exact h);have Z:t % k<k:=mod_lt _ I;rw[get_flatK enc k d t h];have h3:d.toList[t / k]? =some d[t / k]! :=by rw[SQ d (t / k) h1];simp[h1]
 have h4:(enc d[t / k]!)[t % k]? =some (enc d[t / k]!)[t % k]! :=by
  have:t % k< (enc d[t / k]!).length:=by rw[M];exact Z
  rw[SQ (enc d[t / k]!) (t % k) this];exact eT this
 have O:=dF M h3 h4;rw[SN,div_add_mod]at O;exact O
def adQ{w:World}{B g n c e:Nat}{l:List α}(Z:∀x,(enc x).length=k)(ho:w.ownsRow B e k (.slice (some ⟨g,0,none⟩) n c) n (l.flatMap enc))(hl:l.length=n):HoldsK enc k w g 0 l.toArray:=by
 obtain⟨h1,I⟩:=ho;intro j h;rw[size_flatK]at h
 rcases I with⟨I,_⟩|⟨g',cap,cur,hv,hb,M,hnc,hcm,hsz,J⟩
 ·cases I
 injection hv with hv1
 injection hv1 with hv1
 injection hv1 with hv1
 subst hv1;have O:=abR Z l.toArray h;rw[show l.toArray.toList=l by simp,<-J,xY (by simp at h;rw[hl]at h;exact h)]at O;refine⟨?_,by simp[World.frozen?,M]⟩;simp only[Nat.zero_add,World.cell?,M];simpa using O
def aay{w:World}{B g n c e m:Nat}{l:List α}{d':Array α}{os:Array Obj}(hk:∀x,(enc x).length=k)(ho:w.ownsRow B e k (.slice (some ⟨g,0,none⟩) n c) n (l.flatMap enc))(hd:d'.size=n):
 (sortWorldK enc k w g 0 m d' os).ownsRow B e k (.slice (some ⟨g,0,none⟩) n c) n (d'.toList.flatMap enc)/\w.grownBy (sortWorldK enc k w g 0 m d' os) (some g):=by
 obtain⟨h1,h2⟩:=ho
 rcases h2 with⟨h2,_⟩|⟨g',cap,J,hv,hb,hh,M,hcm,O,htk⟩
 ·cases h2
 have e1:g=g':=by injection hv with hv1;injection hv1 with hv1;injection hv1
 subst e1;have e2:c=cap:=by injection hv
 subst e2;have hg:g<w.heap.size:=(Dl.1 hh).1;have hW:(sortWorldK enc k w g 0 m d' os).heap=(w.heap.modify g (Sort.onCells (Sort.putCells id 0 (flatK enc k d'))))++os:=rfl;have I:(d'.toList.flatMap enc).length=n*k:=by rw[jI hk,abQ,hd]
 refine⟨⟨I,.inr ⟨g,c,Sort.putCells id 0 (flatK enc k d') J,E,hb,?_,M,hcm,?_,?_⟩⟩,⟨E,E,E,?_,λj hj hne=>?_⟩⟩
 ·rw[hW,abD (by simpa using hg),Array.getElem?_modify,au E,hh];rfl
 ·simp[Sort.putCells,O]
 ·refine ext_getElem? λt=>?_;by_cases Z:t<n*k
  ·rw[xY Z,abR hk d' (by rw[hd];exact Z)];have htc:t<J.size:=by rw[O];exact SS Z (Ay _ M)
   simp[Sort.putCells,htc,hd,Z]
  rw[List.getElem?_eq_none (by rw[eD];omega),List.getElem?_eq_none (by rw[I];omega)]
 ·rw[hW];simp
 rw[hW,abD (by simpa using hj),Array.getElem?_modify,ah (λh=>hne (by rw[h]))]
end
end
class Ci (α:Type) where
 size:Nat
 TQ:α->List Int
 of:List Int->α
 pos:0<size
 len:∀a,(TQ a).length=size
 inv:∀xs:List Int,xs.length=size->TQ (of xs)=xs
section
variable {α:Type}[Ci α]
open Ci
def uW(a:α):List Value:=(TQ a).map (Value.int .i64)
def mq(l:List α):List Value:=l.flatMap uW
def zk(a:α):(uW a).length=size α:=by simp[uW,len]
def wM(l:List α):(mq l).length=l.length*size α:=by
 induction l with
 |nil=>simp[mq]
 |cons e l h=>simp only[mq,flatMap_cons,length_append,length_cons]at*;rw[h,zk,mR];omega
def Iq(l:List α):∀u∈mq l,u.oneCell'=true:=by
 intro u h;simp only[mq,uW,mem_flatMap,mem_map]at h;obtain⟨e,_,x,_,rfl⟩:=h;rfl
def Ir{l:List α}{k j:Nat}{a:α}{v:Int}(h:l[k]? =some a)(I:(TQ a)[j]? =some v):(mq l)[k*size α+j]? =some (.int .i64 v):=by
 induction l generalizing k with
 |nil=>simp at h
 |cons x l J=>
  have M:mq (x::l)=uW x++mq l:=by simp[mq]
  have O:=zk x;have Z:j<size α:=by
   have:=(dw.1 I).1;rw[len]at this;exact this
  rw[M]
  cases k with
  |zero=>
   simp at h;subst h;rw[F6,fU,oC Y];simp[uW,I]
  |succ k=>
   rw[pO (by rw[mR];omega),O,show(k+1)*size α+j-size α=k*size α+j by rw[mR];omega];exact J (by simpa using h)
variable {w:World}{B n:Nat}{A:Option Addr}{l:List α}
def Rd.SV(h:Rd w B (size α) A n (mq l)):l.length=n:=by
 have:=h.1;rw[wM]at this;exact eq_of_mul_eq_mul_right (pos (α:=α)) this
def Rd.atX{k:Nat}(h:Rd w B (size α) A n (mq l))(O:k<n):∃b off a,A=some ⟨b,off,none⟩/\b<B/\l[k]? =some a/\
  ∀j v,(TQ a)[j]? =some v->w.cell? ⟨b,off+(k*size α+j),none⟩=some (.int .i64 v):=by
 have Z:=h.SV;obtain⟨b,off,e,I,J⟩:=h.2 Y;have he:l[k]? =some (l[k]'Y):=eT Y;exact⟨b,off,_,e,I,he,λj v M=>J _ _ (Ir he M)⟩
def adR{cs:List Value}{m:Nat}(h:fD Zk cs (replicate m (.int .i64))):∃xs:List Int,xs.length=m/\cs=xs.map (Value.int .i64):=by
 induction m generalizing cs with
 |zero=>exact⟨[],E,fD.zH h⟩
 |succ m I=>
  obtain⟨a,O,rfl,⟨x,rfl,_⟩,J⟩:=fD.yH h;obtain⟨xs,M,rfl⟩:=I J;exact⟨x::xs,by simp[M],E⟩
def adS{W:World}{v:Value}{b:Nat}(h:Fits W v (.sl b (replicate (size α) (.int .i64)))):
 ∃A n c,∃l:List α,v=.slice A n c/\Rd W W.heap.size (size α) A n (mq l)/\n<=c/\c<=maxLen/\c*b<=reachBytes/\(A=none->c=0):=by
 have hp:=pos (α:=α)
 rcases h with rfl|⟨M,n,c,rfl,hn,hc,hr,I⟩
 ·exact⟨none,0,0,[],E,⟨by simp[mq],λh=>av h Y⟩,aB,aG _,by simp,λ_=>E⟩
 have O:∀i,i<n-> ∃x:α,M.block<W.heap.size/\ ∀j u,(uW x)[j]? =some u->W.cell? (M.add (i*size α+j))=some u:=by
  intro i hi;obtain⟨cs,h2,hb,Z⟩:=I i hi;obtain⟨xs,hx,rfl⟩:=adR h2;rw[abS]at hb Z;refine⟨of xs,hb hp,λj u hj=>Z j u ?_⟩;rw[uW,inv xs hx]at hj;exact hj
 have hd:∃x:α,True:=⟨of [],trivial⟩;obtain⟨f,hf⟩:∃f:Nat->α,∀i,i<n->M.block<W.heap.size/\ ∀j u,(uW (f i))[j]? =some u->W.cell? (M.add (i*size α+j))=some u:=by
  refine⟨λi=>if hi:i<n then Classical.choose (O i hi)else of [],λi hi=>?_⟩;simp only[hi,dif_pos];exact Classical.choose_spec (O i hi)
 refine⟨some M,n,c,(range n).map f,E,⟨by rw[wM];simp,λh0=>?_⟩,hn,hc,hr,λh=>by cases h⟩;obtain⟨b,off,spot⟩:=M;have J:spot=none:=by
  have h1:(uW (f 0))[0]? =some ((uW (f 0))[0]'(by rw[zk];exact hp)):=eT _;simpa[Addr.add]using World.cell?_spot ((hf 0 h0).2 0 _ h1)
 subst J;refine⟨b,off,E,(hf 0 h0).1,λj u hu=>?_⟩;have hj:j<n*size α:=by
  have:=(dw.1 hu).1;rw[wM]at this;simpa using this
 have hk:j / size α<n:=Nat.div_lt_of_lt_mul (by rw[SN];exact hj);have hm:j % size α<size α:=mod_lt _ hp;have hg:((range n).map f)[j / size α]? =some (f (j / size α)):=by simp[hk]
 have e:j / size α*size α+j % size α=j:=by rw[SN];exact div_add_mod j (size α)
 have h7:=(hf (j / size α) hk).2 (j % size α) u;rw[Go.WideShapes.add_plain,e]at h7;refine h7 ?_;have hi:(TQ (f (j / size α)))[j % size α]? =some ((TQ (f (j / size α)))[j % size α]'(by rw[len];exact hm)):=eT _;have h8:=Ir hg hi;rw[e,hu]at h8;rw[uW,vX,hi];exact h8.symm
end
def BL:∀ {xs ys:List Int},xs.length=ys.length->fM (xs.map (Value.int .i64)) (ys.map (Value.int .i64))=decide (xs=ys)
 |[],[],_=>by simp[fM]
 |x::xs,y::ys,h=>by
  have I:=BL (xs:=xs) (ys:=ys) (by simpa using h);simp only[map_cons,fM,wJ,I,List.cons.injEq];rw[SB];simp
 |[],_::_,h=>by simp at h
 |_::_,[],h=>by simp at h
def AA:∀(xs:List Int),fD Kd (xs.map (Value.int .i64)) (replicate xs.length (.at_ (.int .i64)))
 |[]=>trivial
 |_::xs=>⟨⟨_,E⟩,AA xs⟩
abbrev gN (o:Oper)(d N:Nat):Prop:=o.guard=none/\o.dst=some d/\blt d N=true
abbrev gM (o:Oper)(d N:Nat)(p:Prop):Prop:=o.guard=none/\o.dst=some d/\blt d N=true/\p
abbrev gS (o:Oper)(ops:Array Oper)(j:Nat)(b:Bool)(t:Nat):Prop:=o.guard=some (j,b)/\(ops[j]?).bind (·.dst)=some t
abbrev gY (u:Value)(b c:Bool)(o:Oper)(d N:Nat):Prop:=(yl u==some b)=c/\o.dst=some d/\blt d N=true
inductive vN (b:Nat):List OJ->Array Value->TypeId->Prop
 |z {row:Array Value} {t:TypeId} {fs:List OJ}:vN b (.Oy b row t::fs) row t
 |s {row:Array Value} {t:TypeId} {f:OJ} {fs:List OJ}:vN b fs row t->vN b (f::fs) row t
def fbQ{b:Nat}{fs:List OJ}{row:Array Value}{t:TypeId}(h:vN b fs row t:=by repeat' first|exact vN.z|apply vN.s):vN b fs row t:=h
def vN.at_{b:Nat}{fs:List OJ}{row:Array Value}{t:TypeId}(h:vN b fs row t):∃i:Nat,fs[i]? =some (OJ.Oy b row t):=by
 induction h with
 |z=>exact⟨0,E⟩
 |s _ I=>obtain⟨i,hi⟩:=I;exact⟨i+1,by simpa using hi⟩
inductive EY:List OJ->List OJ->Prop
 |r {fs:List OJ}:EY fs fs
 |k {f:OJ} {fs gs:List OJ}:EY fs gs->EY (f::fs) (f::gs)
 |d {f:OJ} {fs gs:List OJ}:EY fs gs->EY fs (f::gs)
 |a {fs gs:List OJ}:EY fs (fs++gs)
def EY.sub{fs gs:List OJ}(h:EY fs gs):fs.Sublist gs:=by
 induction h with
 |r=>exact Sublist.refl _
 |k _ I=>exact I.cons_cons _
 |d _ I=>exact I.cons _
 |a=>exact Gi _ _
def YJ{t:TypeId}{ds:TypeDesc}(h:prog.underlying t=some ds:=by with_reducible first|exact underlying3|exact underlying42|exact underlying40|exact underlying51|exact underlying43|exact underlying98|exact underlying54|exact underlying138|exact underlying49|exact underlying114|exact underlying90|exact underlying173|exact underlying101|exact underlying78|exact underlying91|exact underlying176|exact underlying23|exact underlying177|exact underlying183|exact underlying103|exact underlying4|exact underlying31|exact underlying99|exact underlying119|exact underlying87|exact underlying30|exact underlying141|exact underlying126|exact underlying35|exact underlying227|exact underlying28|exact underlying27|exact underlying222|exact underlying56|exact underlying32|exact underlying33|exact underlying160|exact underlying108|exact underlying172|exact underlying225|exact underlying102|exact underlying190|exact underlying5|exact underlying95|exact underlying94|exact underlying181|exact underlying180|exact underlying112|exact underlying47|exact underlying230|exact underlying22|exact underlying72|exact underlying93|exact underlying85|exact underlying105|exact underlying25):prog.underlying t=some ds:=h
def iiQ{t:TypeId}{m:Nat}(h:(prog.info? t).map (·.size)=some m:=by with_reducible first|exact zm|exact atx|exact wW|exact avS|exact azx|exact azj|exact aKD|exact Dr|exact atO|exact azv|exact atD|exact azt|exact atM|exact O5|exact atI|exact azy|exact azo|exact atL|exact atN|exact azk|exact azp|exact aqE|exact apg|exact atJ|exact aC1|exact atF|exact azq|exact atC|exact azA|exact aph|exact azh|exact apj|exact YF|exact azg|exact aKE|exact atA|exact atz|exact azz|exact azr|exact azw|exact azs|exact azm|exact atB|exact azi|exact aty|exact atG|exact azl|exact atH|exact atE|exact azn|exact atK|exact atP|exact azu):(prog.info? t).map (·.size)=some m:=h
section
variable {P:Program}{N:Nat}{l l':P7}{w w' w0:World}{ops:Array Oper}{o:Oper}{rest:List Oper}{Q:Exit->Act->World->Prop}{d B:Nat}{v p:Value}{fs fs':List OJ}{ex:Exit}
section
variable {x y:Operand}{t tt s:TypeId}{ds:TypeDesc}{b k f o0 n c m:Nat}{g:Nat->Nat}{row:Array Value}{A:Option Addr}{e:TypeId}
def zfa(h:o.op=.fieldAddr s x f/\ev l x=some (.pointer (some ⟨b,o0,none⟩)):=by exact⟨E,E⟩)(I:∀(b o:Nat) (w:World),(Instr.fieldAt s (.pointer (some ⟨b,o,none⟩)) f).run P w=.ok (.pointer (some ⟨b,g o,none⟩)) w:=by with_reducible first|exact aml|exact ahd|exact ahc|exact amM|exact asY|exact atf|exact amH|exact amD|exact atl|exact amm|exact atg|exact amC|exact amt|exact ata|exact amA|exact amS|exact amB|exact amo|exact as5|exact amZ|exact ath|exact amq|exact as6|exact amJ|exact as0|exact amu|exact asJ|exact ati|exact as1|exact amn|exact amv|exact amQ|exact am2|exact asT|exact ate|exact asK|exact amT|exact asH|exact asI|exact atn|exact amx|exact asZ|exact amG|exact am1|exact as2|exact as4|exact amE|exact as3|exact amR|exact atb|exact att|exact as9|exact amK|exact amV|exact atv|exact amU|exact atj|exact atc|exact atd|exact as8|exact amL|exact Du|exact Dv|exact Dt|exact amP|exact amF|exact amW|exact asW|exact asL|exact atw|exact am3|exact amI|exact amY|exact aix|exact atu|exact amw|exact asU|exact asV|exact as7|exact amN|exact KP|exact am0|exact asM|exact asP|exact SE|exact SF|exact amX|exact abM|exact ato|exact atq|exact amO|exact asN|exact asO|exact amr|exact ams|exact aiy|exact abN|exact abL|exact abK|exact amy|exact asQ|exact asS|exact asR):kY P N l o w (.pointer (some ⟨b,g o0,none⟩)):=JY h.1 h.2 (I b o0 w)
def zld(h:o.op=.load t x/\ev l x=some (.pointer (some ⟨b,k,none⟩)):=by exact⟨E,E⟩)(I:P.underlying t=some ds:=by exact YJ)(J:ds.isRow=false:=by exact E)(S:St B w0 w fs:=by assumption)(M:vN b fs row tt:=by exact fbQ)(O:row[k]? =some v:=by exact E):kY P N l o w v:=by
 obtain⟨i,hi⟩:=M.at_;exact aA h.1 h.2 (zI I J (St.cl i S hi O))
def zlr(h:o.op=.load t x/\ev l x=some (.pointer (some ⟨b,0,none⟩)):=by exact⟨E,E⟩)(I:P.underlying t=some ds:=by exact YJ)(J:ds.isRow=true:=by exact E)(S:St B w0 w fs:=by assumption)(M:vN b fs row tt:=by exact fbQ)(O:(P.info? t).map (·.size)=some m:=by exact iiQ)(Z:row.size=m:=by exact E):kY P N l o w (.agg row):=by
 obtain⟨i,hi⟩:=M.at_;exact aA h.1 h.2 (rG i S hi I J O Z)
def zln(h:o.op=.call {callee:=.builtin .len,args:= #[x],argTypes:= #[t]}/\ev l x=some (.slice A n c):=by exact⟨E,E⟩)(I:P.underlying t=some (.slice e):=by exact YJ):kY P N l o w (.int .i64 (n:Int)):=uq (xs:=[x]) (vs:=[_]) h.1 ⟨h.2,trivial⟩ λ_=>apf E I
def znl(h:o.op=.nilCheck x:=by exact E)(I:ev l x=some p:=by exact E)(J:match p with | .pointer (some _)=>True | .func (.func _) _ _=>True | .func (.via ..) _ _=>True|_=>False:=by exact trivial):kY P N l o w p:=azb h I J
section
variable {kd:IntKind}{xo yo:Operand}{x y:Int}
def zRC(x y:Int):Bool->BinOp->Prop
 |true,.lss=>x<y
 |false,.lss=> ¬x<y
 |true,.leq=>x<=y
 |false,.leq=> ¬x<=y
 |true,.gtr=>y<x
 |false,.gtr=> ¬y<x
 |true,.geq=>y<=x
 |false,.geq=> ¬y<=x
 |true,.eql=>x=y
 |false,.eql=> ¬x=y
 |true,.neq=> ¬x=y
 |false,.neq=>x=y
 |_,_=>False
def zcm{q:Bool}{op:BinOp}(I:o.op=.binOp op t xo yo tt/\ev l xo=some (.int kd x)/\ev l yo=some (.int kd y):=by exact⟨E,E,E⟩)(h:zRC x y q op:=by dsimp only[zRC]<;>first|assumption|decide):kY P N l o w (.bool q):=by
 refine cK I.1 I.2.1 I.2.2 ?_
 cases q<;>cases op<;>first|exact h.elim|exact abF h|exact abG h|exact al7 h|exact al8 h|exact al9 h|exact ama h|exact amb h|exact amc h|exact amd h|exact abH h|exact abI h|exact Sy h
def zco{q:Bool}{op:BinOp}(I:o.op=.binOp op t xo yo tt/\ev l xo=some (.int kd x)/\ev l yo=some (.int kd y):=by exact⟨E,E,E⟩)(h:zRC x y q op:=by dsimp only[zRC]<;>omega):kY P N l o w (.bool q):=zcm I h
end
def avX{P:Program}{w:World}{t:TypeId}{xo yo:Operand}{a b:ByteArray}{q:Bool}(h:(a.toList==b.toList)=q):(do eqGuard .eql t xo yo (.string a) (.string b);binOp .eql t (.string a) (.string b):Sem Value).run P w=.ok (.bool q) w:=by
 subst h;simp[binOp,eqGuard_at_string,go_sem,Op.stringOp]
def aC6{xo yo:Operand}{a b:ByteArray}(I:o.op=.binOp .eql t xo yo tt/\ev l xo=some (.string a)/\ev l yo=some (.string b):=by exact⟨E,E,E⟩)(h:(a.toList==b.toList)=true:=by decide+kernel):kY P N l o w (.bool true):=cK I.1 I.2.1 I.2.2 (avX h)
def aC7{xo yo:Operand}{a b:ByteArray}(I:o.op=.binOp .eql t xo yo tt/\ev l xo=some (.string a)/\ev l yo=some (.string b):=by exact⟨E,E,E⟩)(h:(a.toList==b.toList)=false:=by decide+kernel):kY P N l o w (.bool false):=cK I.1 I.2.1 I.2.2 (avX h)
end
end
abbrev LY (t:TypeId)(v:Value):Prop:= ∀w,(Instr.build t ([]:List (Nat×Value)).toArray).run prog w=.ok v w
def aC8:LY 27 (.agg #[D 0,D 0]):=λ_=>kQ
def aC9:LY 30 (.agg #[D 0,D 0,D 0,D 0,D 0,D 0,D 0,D 0]):=λ_=>kQ
def aDa:LY 35 (.agg #[D 0,.bool false,.bool false,.bool false,.bool false,.bool false,D 0,D 0,D 0,D 0,D 0,D 0,D 0,D 0,.slice none 0 0,.slice none 0 0,.slice none 0 0,D 0]):=λ_=>kQ
def aDb:LY 42 (.agg #[D 0,D 0,D 0,D 0,D 0,.slice none 0 0]):=λ_=>kQ
def aDc:LY 180 (.agg #[D 0,.bool false,.bool false,.bool false,.bool false,.bool false,.bool false,.bool false,.bool false]):=λ_=>kQ
def aDd:LY 49 (.agg #[D 0,D 0,D 0,D 0,D 0,D 0]):=λ_=>kQ
def aDe:LY 51 (.agg #[D 0,D 0,D 0,D 0,D 0,D 0,D 0,D 0,D 0,D 0,D 0]):=λ_=>kQ
def aDf:LY 54 (.agg #[D 0,D 0,D 0,D 0]):=λ_=>kQ
def aDg:LY 56 (.agg #[D 0,D 0,D 0,D 0,D 0,D 0,D 0]):=λ_=>kQ
def aDh:LY 222 (.agg #[D 0,D 0]):=λ_=>kQ
def aDi:LY 225 (.agg #[D 0,D 0,D 0,D 0]):=λ_=>kQ
def azG:LY 93 (.agg #[D 0,D 0]):=λ_=>kQ
def azH:LY 101 (.agg #[.slice none 0 0,D 0]):=λ_=>kQ
def azI:LY 105 (.agg #[D 0,.bool false,.slice none 0 0,D 0,.slice none 0 0,D 0,D 0,D 0,D 0,D 0,D 0,D 0,D 0,.bool false,.bool false,.bool false,.bool false,.slice none 0 0,.nilFunc,D 0]):=λ_=>kQ
def azJ:LY 114 (.agg #[.pointer none,D 0]):=λ_=>kQ
def azK:LY 119 (.agg #[D 0,D 0,D 0,D 0,D 0,D 0,D 0,D 0,D 0,D 0,D 0,D 0,D 0,.slice none 0 0,.bool false,D 0,D 0,D 0,D 0,D 0,D 0,D 0,D 0]):=λ_=>kQ
def azL:LY 138 (.agg #[D 0,D 0,D 0,D 0,D 0,D 0,D 0,D 0,D 0,D 0]):=λ_=>kQ
section
variable {P:Program}{N:Nat}{l l':P7}{w w' w0:World}{ops:Array Oper}{o:Oper}{rest:List Oper}{Q:Exit->Act->World->Prop}{d B:Nat}{v p:Value}{fs fs':List OJ}{ex:Exit}
section
variable {x y:Operand}{t tt s:TypeId}{ds:TypeDesc}{b k f o0 n c m:Nat}{g:Nat->Nat}{row:Array Value}{A:Option Addr}{e:TypeId}
def ybz{row:Array Value}(h:o.op=.build t ([]:List (Nat×Operand)).toArray:=by exact E)(I:∀w,(Instr.build t ([]:List (Nat×Value)).toArray).run P w=.ok (.agg row) w:=by with_reducible first|exact aC8|exact aC9|exact aDa|exact aDb|exact aDc|exact aDd|exact aDe|exact aDf|exact aDg|exact aDh|exact aDi|exact azG|exact azH|exact azI|exact azJ|exact azK|exact azL):kY P N l o w (.agg row):=F4 (vs:=[]) h trivial (I w)
def y0Q(h:kY P N l o w v:=by first|exact ym|exact ya|exact yx|exact yno|exact znl|exact zfa|exact zld|exact zlr|exact zln|exact ypT|exact ypF|exact ybz|exact aC6|exact aC7|exact zcm (q:=true)|exact zcm (q:=false)|exact zco (q:=true)|exact zco (q:=false)):kY P N l o w v:=h
end
inductive yQ:Nat->List Bool->Nat->List Bool->Prop
 |z {l:List Bool}:yQ 0 (false::l) 0 (true::l)
 |t {k i:Nat} {l l':List Bool}:yQ k l i l'->yQ k (true::l) (i+1) (true::l')
 |f {k i:Nat} {l l':List Bool}:yQ k l i l'->yQ (k+1) (false::l) (i+1) (false::l')
def nfQ{k i:Nat}{l l':List Bool}(h:yQ k l i l':=by repeat' first|exact yQ.z|apply yQ.t|apply yQ.f):yQ k l i l':=h
def yQ.eq{k i:Nat}{l l':List Bool}(h:yQ k l i l'):l.toArray.setIfInBounds i true=l'.toArray:=by
 suffices J:l.set i true=l' by simp[J]
 induction h with
 |z=>rfl
 |t _ I=>rw[KR,I]
 |f _ I=>rw[KR,I]
inductive Cv:List Bool->Nat->List Bool->Prop
 |z {b:Bool} {l:List Bool}:Cv (b::l) 0 (true::l)
 |s {b:Bool} {i:Nat} {l l':List Bool}:Cv l i l'->Cv (b::l) (i+1) (b::l')
def slQ{i:Nat}{l l':List Bool}(h:Cv l i l':=by repeat' first|exact Cv.z|apply Cv.s):Cv l i l':=h
def Cv.eq{i:Nat}{l l':List Bool}(h:Cv l i l'):l.toArray.setIfInBounds i true=l'.toArray:=by
 suffices I:l.set i true=l' by simp[I]
 induction h with
 |z=>rfl
 |s _ J=>rw[KR,J]
def Step(A B:Prop):Prop:=B->A
section
variable {C:World->Prop}{Qa:Act->Prop}{j:Nat}{t:Nat}{u:Value}{b:Bool}
def q1Q(hw:gN o d N:=by exact⟨E,E,E⟩)(I:kY P N l o w v:=by exact y0Q):Step (wL P N ops Q (o::rest) l w) (wL P N ops Q rest ((d,v)::l) w):=λh=>Ig (wn hw.1) hw.2.1 hw.2.2 I h
def q2Q(J:gS o ops j b t:=by exact⟨E,E⟩)(hv:lk l t=some u:=by exact E)(I:gY u b true o d N:=by exact⟨E,E,E⟩)(M:kY P N l o w v:=by exact y0Q):Step (wL P N ops Q (o::rest) l w) (wL P N ops Q rest ((d,v)::l) w):=λh=>Ig (wg J.1 J.2 hv I.1) I.2.1 I.2.2 M h
def q3Q(hw:gN o d N:=by exact⟨E,E,E⟩)(I:∀w,C w->kY P N l o w v:=by(intro w S;exact y0Q)):Step (wU P N ops C Qa (o::rest) l) (wU P N ops C Qa rest ((d,v)::l)):=λh=>Qq (wn hw.1) hw.2.1 hw.2.2 I h
def q4Q(J:gS o ops j b t:=by exact⟨E,E⟩)(hv:lk l t=some u:=by exact E)(I:gY u b true o d N:=by exact⟨E,E,E⟩)(M:∀w,C w->kY P N l o w v:=by(intro w S;exact y0Q)):Step (wU P N ops C Qa (o::rest) l) (wU P N ops C Qa rest ((d,v)::l)):=λh=>Qq (wg J.1 J.2 hv I.1) I.2.1 I.2.2 M h
def St.fit{gs:List OJ}(S:St B w0 w gs)(h:EY fs gs:=by repeat' first|exact EY.r|exact EY.a|apply EY.k|apply EY.d):St B w0 w fs:=S.sub h.sub
def cwQ{G:Prop}(h:G:=by first|assumption|exact St.fit ‹_›):G:=h
abbrev gR (ops:Array Oper)(ls:List Bool)(i:Nat):Prop:=Region.noSelect ops=true/\Region.free .any ops ls.toArray i=true/\(Region.ready .any ops ls.toArray).contains i=true
section
variable {n m i:Nat}{listed listed':Array Bool}
def q5Q{ls ls':List Bool}(q:Nat)(I:yQ q ls i ls':=by exact nfQ)(hi:ops[i]? =some o:=by exact E)(hw:gN o d N:=by exact⟨E,E,E⟩)(J:∀w,C w->kY P N l o w v:=by(intro w S;exact y0Q))(M:C w:=by exact cwQ)(hs:gR ops ls i:=by exact⟨kQ,kQ,kQ⟩):Step (wA P N ops Q C (n+1) ls.toArray l w) (wA P N ops Q C n ls'.toArray ((d,v)::l) w):=λh=>qW hi hs.1 hs.2.1 hs.2.2 M I.eq (wn hw.1) hw.2.1 hw.2.2 J h
def q6Q{ls ls':List Bool}(q:Nat)(O:yQ q ls i ls':=by exact nfQ)(hi:ops[i]? =some o:=by exact E)(hw:gN o d N:=by exact⟨E,E,E⟩)(Z:∀w,C w->kY P N l o w v:=by(intro w S;exact y0Q))(hS:C w:=by exact cwQ)(hs:gR ops ls i:=by exact⟨kQ,kQ,kQ⟩)(I:ls.toArray.getD n true=false:=by exact E)(J:zJ ops n i=true:=by kernel_rfl)(M:beq n i=false:=by exact E):Step (wG P N ops Q C n (m+1) ls.toArray l w) (wG P N ops Q C n m ls'.toArray ((d,v)::l) w):=λh=>Ga hi hs.1 hs.2.1 hs.2.2 I J M hS O.eq (wn hw.1) hw.2.1 hw.2.2 Z h
def q7Q{ls ls':List Bool}(q:Nat)(M:yQ q ls i ls':=by exact nfQ)(hi:ops[i]? =some o:=by exact E)(J:gS o ops j b t:=by exact⟨E,E⟩)(hv:lk l t=some u:=by exact E)(I:gY u b true o d N:=by exact⟨E,E,E⟩)(O:∀w,C w->kY P N l o w v:=by(intro w S;exact y0Q))(Z:C w:=by exact cwQ)(hs:gR ops ls i:=by exact⟨kQ,kQ,kQ⟩):Step (wA P N ops Q C (n+1) ls.toArray l w) (wA P N ops Q C n ls'.toArray ((d,v)::l) w):=λh=>qW hi hs.1 hs.2.1 hs.2.2 Z M.eq (wg J.1 J.2 hv I.1) I.2.1 I.2.2 O h
def q8Q{ls ls':List Bool}(q:Nat)(M:yQ q ls i ls':=by exact nfQ)(hi:ops[i]? =some o:=by exact E)(J:gS o ops j b t:=by exact⟨E,E⟩)(hv:lk l t=some u:=by exact E)(I:gY u b false o d N:=by exact⟨E,E,E⟩)(O:C w:=by exact cwQ)(hs:gR ops ls i:=by exact⟨kQ,kQ,kQ⟩):Step (wA P N ops Q C (n+1) ls.toArray l w) (wA P N ops Q C n ls'.toArray ((d,undef)::l) w):=λh=>Dp hi hs.1 hs.2.1 hs.2.2 O M.eq (wg J.1 J.2 hv I.1) I.2.1 I.2.2 h
def q9Q{ls ls':List Bool}(q:Nat)(hl:yQ q ls i ls':=by exact nfQ)(hi:ops[i]? =some o:=by exact E)(Z:gS o ops j b t:=by exact⟨E,E⟩)(hv:lk l t=some u:=by exact E)(I:gY u b true o d N:=by exact⟨E,E,E⟩)(hy:∀w,C w->kY P N l o w v:=by(intro w S;exact y0Q))(hS:C w:=by exact cwQ)(hs:gR ops ls i:=by exact⟨kQ,kQ,kQ⟩)(J:ls.toArray.getD n true=false:=by exact E)(M:zJ ops n i=true:=by kernel_rfl)(O:beq n i=false:=by exact E):Step (wG P N ops Q C n (m+1) ls.toArray l w) (wG P N ops Q C n m ls'.toArray ((d,v)::l) w):=λh=>Ga hi hs.1 hs.2.1 hs.2.2 J M O hS hl.eq (wg Z.1 Z.2 hv I.1) I.2.1 I.2.2 hy h
def KU{ls ls':List Bool}(q:Nat)(hl:yQ q ls i ls':=by exact nfQ)(hi:ops[i]? =some o:=by exact E)(Z:gS o ops j b t:=by exact⟨E,E⟩)(hv:lk l t=some u:=by exact E)(I:gY u b false o d N:=by exact⟨E,E,E⟩)(hS:C w:=by exact cwQ)(hs:gR ops ls i:=by exact⟨kQ,kQ,kQ⟩)(J:ls.toArray.getD n true=false:=by exact E)(M:zJ ops n i=true:=by kernel_rfl)(O:beq n i=false:=by exact E):Step (wG P N ops Q C n (m+1) ls.toArray l w) (wG P N ops Q C n m ls'.toArray ((d,undef)::l) w):=λh=>amk hi hs.1 hs.2.1 hs.2.2 J M O hS hl.eq (wg Z.1 Z.2 hv I.1) I.2.1 I.2.2 h
end
end
section
variable {fn:Func}{R:Ending->World->Prop}{i j k:Nat}{v1 v2 v3:Value}{ty t tt:TypeId}{b m:Nat}{row:Array Value}{ds:TypeDesc}
def p0Q(h:fn.results=([]:List ResultVar).toArray:=by exact E):Step (wQ N (bodyPost P fn R) .ret l w) (R (.returned (uK [])) w):=λI=>fK (vs:=[]) h trivial I
def aDj(h:fn.results=([]:List ResultVar).toArray:=by exact E):Step (wQ N (bodyPost P fn R) .normal l w) (R (.returned (uK [])) w):=λI=>Ql (vs:=[]) h trivial I
def p1Q(h:fn.results=[ResultVar.tmp i].toArray:=by exact E)(h1:lk l i=some v1:=by exact E):Step (wQ N (bodyPost P fn R) .ret l w) (R (.returned (uK [v1])) w):=λI=>fK (vs:=[v1]) h ⟨h1,trivial⟩ I
def p2Q(h:fn.results=[ResultVar.tmp i,ResultVar.tmp j].toArray:=by exact E)(h1:lk l i=some v1:=by exact E)(I:lk l j=some v2:=by exact E):Step (wQ N (bodyPost P fn R) .ret l w) (R (.returned (uK [v1,v2])) w):=λJ=>fK (vs:=[v1,v2]) h ⟨h1,I,trivial⟩ J
def p3Q(I:fn.results=[ResultVar.tmp i,ResultVar.tmp j,ResultVar.tmp k].toArray:=by exact E)(h1:lk l i=some v1:=by exact E)(h:lk l j=some v2/\lk l k=some v3:=by exact⟨E,E⟩):Step (wQ N (bodyPost P fn R) .ret l w) (R (.returned (uK [v1,v2,v3])) w):=λJ=>fK (vs:=[v1,v2,v3]) I ⟨h1,h.1,h.2,trivial⟩ J
def aDk(h:fn.results=[ResultVar.cell i ty].toArray/\lk l i=some (.pointer (some ⟨b,0,none⟩)):=by exact⟨E,E⟩)(S:St B w0 w fs:=by assumption)(I:vN b fs row tt:=by exact fbQ)(J:P.underlying ty=some ds:=by exact YJ)(M:ds.isRow=true:=by exact E)(O:(P.info? ty).map (·.size)=some m:=by exact iiQ)(Z:row.size=m:=by exact E):Step (wQ N (bodyPost P fn R) .ret l w) (R (.returned (uK [.agg row])) w):=λhR=>by
 obtain⟨q,hq⟩:=I.at_;exact fK (vs:=[.agg row]) h.1 ⟨⟨_,h.2,gD q S hq J M (by rw[Z];exact O)⟩,trivial⟩ hR
def aDl(h:fn.results=[ResultVar.cell i ty,ResultVar.tmp j].toArray:=by exact E)(h1:lk l j=some v1:=by exact E)(I:lk l i=some (.pointer (some ⟨b,0,none⟩)):=by exact E)(S:St B w0 w fs:=by assumption)(J:vN b fs row tt:=by exact fbQ)(M:P.underlying ty=some ds:=by exact YJ)(O:ds.isRow=true:=by exact E)(Z:(P.info? ty).map (·.size)=some m:=by exact iiQ)(hm:row.size=m:=by exact E):Step (wQ N (bodyPost P fn R) .ret l w) (R (.returned (uK [.agg row,v1])) w):=λhR=>by
 obtain⟨q,hq⟩:=J.at_;exact fK (vs:=[.agg row,v1]) h ⟨⟨_,I,gD q S hq M O (by rw[hm];exact Z)⟩,h1,trivial⟩ hR
def aDm(I:fn.results=[ResultVar.cell i ty,ResultVar.tmp j,ResultVar.tmp k].toArray:=by exact E)(h1:lk l j=some v1:=by exact E)(h:lk l k=some v2/\lk l i=some (.pointer (some ⟨b,0,none⟩)):=by exact⟨E,E⟩)(S:St B w0 w fs:=by assumption)(J:vN b fs row tt:=by exact fbQ)(M:P.underlying ty=some ds:=by exact YJ)(O:ds.isRow=true:=by exact E)(Z:(P.info? ty).map (·.size)=some m:=by exact iiQ)(hm:row.size=m:=by exact E):Step (wQ N (bodyPost P fn R) .ret l w) (R (.returned (uK [.agg row,v1,v2])) w):=λhR=>by
 obtain⟨q,hq⟩:=J.at_;exact fK (vs:=[.agg row,v1,v2]) I ⟨⟨_,h.2,gD q S hq M O (by rw[hm];exact Z)⟩,h1,h.1,trivial⟩ hR
def aDn{r:Nat}(I:fn.results=[ResultVar.cell i ty,ResultVar.tmp j,ResultVar.tmp k,ResultVar.tmp r].toArray:=by exact E)(h1:lk l j=some v1:=by exact E)(h:lk l k=some v2/\lk l r=some v3/\lk l i=some (.pointer (some ⟨b,0,none⟩)):=by exact⟨E,E,E⟩)(S:St B w0 w fs:=by assumption)(J:vN b fs row tt:=by exact fbQ)(M:P.underlying ty=some ds:=by exact YJ)(O:ds.isRow=true:=by exact E)(Z:(P.info? ty).map (·.size)=some m:=by exact iiQ)(hm:row.size=m:=by exact E):Step (wQ N (bodyPost P fn R) .ret l w) (R (.returned (uK [.agg row,v1,v2,v3])) w):=λhR=>by
 obtain⟨q,hq⟩:=J.at_;exact fK (vs:=[.agg row,v1,v2,v3]) I ⟨⟨_,h.2.2,gD q S hq M O (by rw[hm];exact Z)⟩,h1,h.1,h.2.1,trivial⟩ hR
end
def gLQ{B:Prop}(h:Step (wL P N ops Q rest l w) B):Step (wL P N ops Q rest l w) B:=h
def gQQ{B:Prop}(h:Step (wQ N Q ex l w) B):Step (wQ N Q ex l w) B:=h
def gUQ{B:Prop}{C:World->Prop}{Qa:Act->Prop}(h:Step (wU P N ops C Qa rest l) B):Step (wU P N ops C Qa rest l) B:=h
def gAQ{B:Prop}{C:World->Prop}{n:Nat}{ls:List Bool}(h:Step (wA P N ops Q C (n+1) ls.toArray l w) B):Step (wA P N ops Q C (n+1) ls.toArray l w) B:=h
def gGQ{B:Prop}{C:World->Prop}{n m:Nat}{ls:List Bool}(h:Step (wG P N ops Q C n (m+1) ls.toArray l w) B):Step (wG P N ops Q C n (m+1) ls.toArray l w) B:=h
section
variable {K:Act->World->Prop}{x y:Code}{id:Nat}{os:List Oper}{c:Operand}{C:World->Prop}{Qa:Act->Prop}{j t n:Nat}{u:Value}{b:Bool}{listed:Array Bool}{A B:Prop}
def s1Q:Step (wQ N (Exit.then (y.wp P Q) Q) .normal l w) (wC P N y Q l w):=jD
def s2Q:Step (wC P N (.seq x y) Q l w) (wC P N x (Exit.then (y.wp P Q) Q) l w):=bH
def s3Q:Step (wC P N (.region id os.toArray false) Q l w) (wL P N os.toArray Q os l w):=aL
def s4Q:Step (wC P N .skip Q l w) (wQ N Q .normal l w):=uh
def s5Q:Step (wC P N (.block id x) Q l w) (wC P N x (Exit.inBlock id Q) l w):=GI
def s6Q:Step (wQ N (Exit.inBlock id Q) .normal l w) (wQ N Q .normal l w):=jE
def s7Q:Step (wC P N .ret Q l w) (wQ N Q .ret l w):=rM
def s8Q:Step (wQ N (Exit.then K Q) .ret l w) (wQ N Q .ret l w):=jv
def s9Q:Step (wQ N (Exit.inBlock id Q) .ret l w) (wQ N Q .ret l w):=aaf
def aDo:Step (wC P N (.exit id) Q l w) (wQ N Q (.exit id) l w):=al5
def aDp:Step (wQ N (Exit.then K Q) (.exit id) l w) (wQ N Q (.exit id) l w):=aeL
def aDq:Step (wQ N (Exit.inBlock id Q) (.exit id) l w) (wQ N Q .normal l w):=Xw
def aDr:Step (wL P N ops Q [] l w) (wQ N Q .normal l w):=ag7
def aDs(h:ev l c=some (.bool true)):Step (wC P N (.cond c x y) Q l w) (wC P N x Q l w):=oD h
def aDt(h:ev l c=some (.bool false)):Step (wC P N (.cond c x y) Q l w) (wC P N y Q l w):=oF h
def aDu(I:gS o ops j b t:=by exact⟨E,E⟩)(hv:lk l t=some u:=by exact E)(h:gY u b false o d N:=by exact⟨E,E,E⟩):Step (wL P N ops Q (o::rest) l w) (wL P N ops Q rest ((d,undef)::l) w):=abE (wg I.1 I.2 hv h.1) h.2.1 h.2.2
def aDv(I:gS o ops j b t:=by exact⟨E,E⟩)(hv:lk l t=some u:=by exact E)(h:gY u b false o d N:=by exact⟨E,E,E⟩):Step (wU P N ops C Qa (o::rest) l) (wU P N ops C Qa rest ((d,undef)::l)):=amh (wg I.1 I.2 hv h.1) h.2.1 h.2.2
def aDw(h:Region.ready .any ops listed=[]):Step (wA P N ops Q C n listed l w) (wQ N Q .normal l w):=ami h
def avY{G:Prop}(h:G:=by exact cwQ):Step (G/\A) A:=And.intro h
end
inductive Steps:Nat->Prop->Prop->Prop
 |z {A:Prop}:Steps 0 A A
 |s {n:Nat} {A B C:Prop}:Step A B->Steps n B C->Steps (n+1) A C
def Steps.go{n:Nat}{A B:Prop}(h:Steps n A B):B->A:=by
 induction h with
 |z=>exact id
 |s h _ I=>exact λb=>h (I b)
def sQ{A B:Prop}(hs:Step A B:=by first|with_reducible exact aDr|((with_reducible apply gLQ);first|exact q1Q|exact q2Q|exact aDu)|with_reducible exact s1Q|with_reducible exact s2Q|with_reducible exact s3Q|with_reducible exact s4Q|with_reducible exact s5Q|with_reducible exact s6Q|with_reducible exact s7Q|with_reducible exact s8Q|with_reducible exact s9Q|with_reducible exact aDo|with_reducible exact aDp|with_reducible exact aDq|((with_reducible refine aDs ?_);exact E)|((with_reducible refine aDt ?_);exact E)|((with_reducible apply gUQ);first|exact q3Q|exact q4Q|exact aDv)|((with_reducible apply gQQ);first|exact p1Q|exact aDl|exact p2Q|exact aDk|exact p3Q|exact aDm|exact p0Q|exact aDj|exact aDn)):Step A B:=hs
def zQ{A B:Prop}(h:B)(hs:Step A B:=by exact sQ):A:=hs h
def zN{A B:Prop}(n:Nat)(h:B)(hs:Steps n A B:=by repeat' first|exact Steps.z|apply Steps.s|exact sQ):A:=hs.go h
def sQa{A B:Prop}(hs:Step A B:=by first|((with_reducible apply gAQ);first|exact q5Q 0|exact q7Q 0|exact q8Q 0|exact q5Q 1|exact q7Q 1|exact q8Q 1|exact q5Q 2|exact q7Q 2|exact q8Q 2|exact q5Q 3|exact q7Q 3|exact q8Q 3|exact q5Q 4|exact q7Q 4|exact q8Q 4|exact q5Q 5|exact q7Q 5|exact q8Q 5|exact q5Q 6|exact q7Q 6|exact q8Q 6|exact q5Q 7|exact q7Q 7|exact q8Q 7|exact q5Q 8|exact q7Q 8|exact q8Q 8|exact q5Q 9|exact q7Q 9|exact q8Q 9)|((with_reducible apply aDw);kernel_rfl)|exact avY):Step A B:=hs
def dI{A B:Prop}(h:B)(hs:Step A B:=by exact sQa):A:=hs h
def aW{A B:Prop}(n:Nat)(h:B)(hs:Steps n A B:=by repeat' first|exact Steps.z|apply Steps.s|exact sQa):A:=hs.go h
def ji{A B:Prop}(h:B)(hs:Step A B:=by first|((with_reducible apply gGQ);first|exact q6Q 0|exact q9Q 0|exact KU 0|exact q6Q 1|exact q9Q 1|exact KU 1|exact q6Q 2|exact q9Q 2|exact KU 2|exact q6Q 3|exact q9Q 3|exact KU 3|exact q6Q 4|exact q9Q 4|exact KU 4|exact q6Q 5|exact q9Q 5|exact KU 5|exact q6Q 6|exact q9Q 6|exact KU 6|exact q6Q 7|exact q9Q 7|exact KU 7|exact q6Q 8|exact q9Q 8|exact KU 8|exact q6Q 9|exact q9Q 9|exact KU 9)|exact avY):A:=hs h
section
variable {t:TypeId}{row:Array Value}{id n m:Nat}{os:List Oper}{gs:List OJ}{b off:Nat}{rw_ rw':List Value}{cs:Array Value}{ty:TypeId}{x y:Operand}{C:World->Prop}{ls ls':List Bool}{tt:TypeId}{f:FuncId}{first cap us vs:List Value}{xs ys:List Operand}{ts:Array TypeId}{R:Ending->World->Prop}
def wX(P:Program)(t:TypeId)(row:Array Value):Prop:= ∃z,(∀w,(zeroValue t).run P w=.ok z w)/\z.cells=row
def iU(S:St B w0 w fs)(I:wX P t row)(h:∀b w',St B w0 w' (.Oy b row t::fs)->wL P N ops Q rest ((d,.pointer (some ⟨b,0,none⟩))::l) w')(hw:gM o d N (o.op=.alloc t):=by exact⟨E,E,E,E⟩):wL P N ops Q (o::rest) l w:=by
 obtain⟨z,h1,J⟩:=I;exact nR (V:=λb=>.pointer (some ⟨b,0,none⟩)) S (wn hw.1) hw.2.1 hw.2.2.1 (gK hw.2.2.2 (h1 w) J) h
def nT{C:World->Prop}{n:Nat}{ls ls':List Bool}(j:Nat)(I:ops[j]? =some o)(S:St B w0 w fs)(J:wX P t row)(h:∀b w',St B w0 w' (.Oy b row t::fs)->C w'/\wA P N ops Q C n ls'.toArray ((d,.pointer (some ⟨b,0,none⟩))::l) w')(M:Cv ls j ls':=by exact slQ)(hw:gM o d N (o.op=.alloc t):=by exact⟨E,E,E,E⟩):wK P N ops Q C n j ls.toArray l w:=by
 obtain⟨z,h1,O⟩:=J;exact jm (V:=λb=>.pointer (some ⟨b,0,none⟩)) I M.eq S (wn hw.1) hw.2.1 hw.2.2.1 (gK hw.2.2.2 (h1 w) O) h
def zr3:wX prog 3 #[D 0]:=⟨_,zeroValue3,E⟩
def Ju:wX prog 27 #[D 0,D 0]:=⟨_,zeroValue27,E⟩
def akB:wX prog 30 #[D 0,D 0,D 0,D 0,D 0,D 0,D 0,D 0]:=⟨_,zeroValue30,E⟩
def akC:wX prog 35 #[D 0,.bool false,.bool false,.bool false,.bool false,.bool false,D 0,D 0,D 0,D 0,D 0,D 0,D 0,D 0,.slice none 0 0,.slice none 0 0,.slice none 0 0,D 0]:=⟨_,zeroValue35,E⟩
def iN:wX prog 42 #[D 0,D 0,D 0,D 0,D 0,.slice none 0 0]:=⟨_,zeroValue42,E⟩
def aqF:wX prog 180 #[D 0,.bool false,.bool false,.bool false,.bool false,.bool false,.bool false,.bool false,.bool false]:=⟨_,zeroValue180,E⟩
def adT:wX prog 49 #[D 0,D 0,D 0,D 0,D 0,D 0]:=⟨_,zeroValue49,E⟩
def akD:wX prog 51 #[D 0,D 0,D 0,D 0,D 0,D 0,D 0,D 0,D 0,D 0,D 0]:=⟨_,zeroValue51,E⟩
def vY:wX prog 54 #[D 0,D 0,D 0,D 0]:=⟨_,zeroValue54,E⟩
def aDx:wX prog 56 #[D 0,D 0,D 0,D 0,D 0,D 0,D 0]:=⟨_,zeroValue56,E⟩
def aDy:wX prog 222 #[D 0,D 0]:=⟨_,zeroValue222,E⟩
def avZ:wX prog 225 #[D 0,D 0,D 0,D 0]:=⟨_,zeroValue225,E⟩
def BM:wX prog 101 #[.slice none 0 0,D 0]:=⟨_,zeroValue101,E⟩
def azM:wX prog 105 #[D 0,.bool false,.slice none 0 0,D 0,.slice none 0 0,D 0,D 0,D 0,D 0,D 0,D 0,D 0,D 0,.bool false,.bool false,.bool false,.bool false,.slice none 0 0,.nilFunc,D 0]:=⟨_,zeroValue105,E⟩
def Iu:wX prog 114 #[.pointer none,D 0]:=⟨_,zeroValue114,E⟩
def agH:wX prog 119 #[D 0,D 0,D 0,D 0,D 0,D 0,D 0,D 0,D 0,D 0,D 0,D 0,D 0,.slice none 0 0,.bool false,D 0,D 0,D 0,D 0,D 0,D 0,D 0,D 0]:=⟨_,zeroValue119,E⟩
def zn:wX prog 138 #[D 0,D 0,D 0,D 0,D 0,D 0,D 0,D 0,D 0,D 0]:=⟨_,zeroValue138,E⟩
def azN:wX prog 190 #[.nilFunc]:=⟨_,zeroValue190,E⟩
def oH{a b:Nat}(h:a<=b:=by first|assumption|exact aG _|(dsimp only;omega)|(simp only[length_append,length_cons,length_nil,length_drop,length_take]at*;omega)):a<=b:=h
inductive Out:List OJ->Nat->OJ->List OJ->Prop
 |z {f:OJ} {fs:List OJ}:Out (f::fs) 0 f fs
 |s {f g:OJ} {fs gs:List OJ} {i:Nat}:Out fs i f gs->Out (g::fs) (i+1) f (g::gs)
def Out.eq{fs gs:List OJ}{i:Nat}{f:OJ}(h:Out fs i f gs):fs[i]? =some f/\fs.eraseIdx i=gs:=by
 induction h with
 |z=>exact⟨E,E⟩
 |s _ I=>exact⟨by simpa using I.1,by rw[SH,I.2]⟩
inductive Brs:List OJ->List Nat->List OJ->Prop
 |z {fs:List OJ}:Brs fs [] fs
 |s {fs gs hs:List OJ} {i:Nat} {is:List Nat} {f:OJ}:Out fs i f gs->Brs (f::gs) is hs->Brs fs (i::is) hs
def St.fC{gs:List OJ}(S:St B w0 w fs)(is:List Nat)(h:Brs fs is gs:=by repeat' first|exact Brs.z|exact Out.z|apply Brs.s|apply Out.s):St B w0 w gs:=by
 induction h with
 |z=>exact S
 |s h _ I=>
  obtain⟨h1,J⟩:=h.eq;have:=S.bring _ h1;rw[J]at this;exact I this
inductive Dls:List OJ->List Nat->List OJ->Prop
 |z {fs:List OJ}:Dls fs [] fs
 |s {fs gs hs:List OJ} {i:Nat} {is:List Nat} {f:OJ}:Out fs i f gs->Dls gs is hs->Dls fs (i::is) hs
def dlQ{fs gs:List OJ}{is:List Nat}(h:Dls fs is gs:=by repeat' first|exact Dls.z|exact Out.z|apply Dls.s|apply Out.s):Dls fs is gs:=h
def St.bq{gs:List OJ}(S:St B w0 w fs)(is:List Nat)(h:Dls fs is gs:=by exact dlQ):St B w0 w gs:=by
 induction h with
 |z=>exact S
 |s h _ I=>
  refine I ?_;rw[<-h.eq.2];exact S.del _
def aU(n:Nat)(S:St B w0 w.drew gs)(is:List Nat)(h:wA P N os.toArray Q (λw'=>St B w0 w' fs) n (replicate n false).toArray l w.drew)(J:Dls gs is fs:=by exact dlQ)(I:P.follows .mixedOrders=true:=by exact mixed)(hn:os.length=n:=by exact E):wC P N (.region id os.toArray true) Q l w:=F8 I hn iQ h
def gV(m n:Nat)(S:St B w0 w.drew gs)(is:List Nat)(h:wG P N os.toArray Q (λw'=>St B w0 w' fs) n m (replicate m false).toArray l w.drew)(J:Dls gs is fs:=by exact dlQ)(I:P.follows .mixedOrders=true:=by exact mixed)(hn:os.length=m:=by exact E):wC P N (.region id os.toArray true) Q l w:=Dq n I hn iQ h
inductive EZ:List Value->Nat->List Value->List Value->Prop
 |n {l:List Value}:EZ l 0 [] l
 |c {x y:Value} {l cs l':List Value}:EZ l 0 cs l'->EZ (x::l) 0 (y::cs) (y::l')
 |s {x:Value} {i:Nat} {l cs l':List Value}:EZ l i cs l'->EZ (x::l) (i+1) cs (x::l')
def EZ.spec{l cs l':List Value}{i:Nat}(h:EZ l i cs l'):i+cs.length<=l.length/\l.take i++cs++l.drop (i+cs.length)=l':=by
 induction h with
 |n=>simp
 |c _ J=>obtain⟨h1,I⟩:=J;simp only[take_zero,nil_append,Nat.zero_add,length_cons,cons_append,drop_succ_cons]at h1 I⊢;exact⟨by omega,by rw[I]⟩
 | @s x i l cs l' _ J=>obtain⟨h1,I⟩:=J;refine⟨by simp;omega,?_⟩;rw[show i+1+cs.length=(i+cs.length)+1 by omega,take_succ_cons,drop_succ_cons,vW,vW,I]
def EZ.eq{l cs l':List Value}{i:Nat}(h:EZ l i cs l'):dU l.toArray i cs=l'.toArray:=by
 obtain⟨h1,I⟩:=h.spec;apply Av.1;rw[jw _ _ _ (by simpa using h1)];simpa using I
def J7(i:Nat)(S:St B w0 w fs)(I:(P.info? ty).map (·.size)=some m)(h:∀w',St B w0 w' fs'->wL P N ops Q rest l w')(hw:o.guard=none/\o.dst=none/\o.op=.store ty x y/\ev l x=some (.pointer (some ⟨b,off,none⟩))/\ev l y=some v:=by exact⟨E,E,E,E,E⟩)(hi:fs[i]? =some (.Oy b rw_.toArray t):=by exact E)(hv:v.cells=cs:=by exact E)(J:cs.size=m:=by exact E)(h1:∀u∈cs.toList,u.oneCell'=true:=by exact dx E)(M:ble (off+m) rw_.toArray.size=true:=by exact E)(hs:EZ rw_ off cs.toList rw':=by repeat' first|exact EZ.n|apply EZ.c|apply EZ.s)(O:jR (.Oy b rw'.toArray t) fs i fs':=by repeat' first|exact jR.z|apply jR.s):wL P N ops Q (o::rest) l w:=Ii i S (wn hw.1) hw.2.1 hw.2.2.1 hw.2.2.2.1 hw.2.2.2.2 hi hv I J h1 (fV M) hs.eq O.eq h
def jT(S:St B w0 w fs)(h:∀b w',St B w0 w' (.Oy b row t::fs)->wL P N ops Q rest ((d,.pointer (some ⟨b,0,none⟩))::l) w')(hw:gM o d N (o.op=.box t x/\ev l x=some (.agg row)):=by exact⟨E,E,E,E,E⟩):wL P N ops Q (o::rest) l w:=nR (V:=λb=>.pointer (some ⟨b,0,none⟩)) S (wn hw.1) hw.2.1 hw.2.2.1 (agz hw.2.2.2.1 hw.2.2.2.2 E) h
def YK(S:St B w0 w fs)(h:∀b w',St B w0 w' (.Oy b #[v] t::fs)->wL P N ops Q rest ((d,.pointer (some ⟨b,0,none⟩))::l) w')(hw:gM o d N (o.op=.box t x/\ev l x=some v):=by exact⟨E,E,E,E,E⟩)(hv:v.cells= #[v]:=by exact E):wL P N ops Q (o::rest) l w:=nR (V:=λb=>.pointer (some ⟨b,0,none⟩)) S (wn hw.1) hw.2.1 hw.2.2.1 (agz hw.2.2.2.1 hw.2.2.2.2 hv) h
def Uc(S:St B w0 w fs)(h:∀b w',St B w0 w' (.Oy b row tt::fs)->wL P N ops Q rest ((d,.slice (some ⟨b,0,none⟩) 1 1)::l) w')(hw:gM o d N (o.op=.buildSlice t 1 [(0,x)].toArray/\ev l x=some (.agg row)):=by exact⟨E,E,E,E,E⟩)(J:P.underlying t=some (.slice tt):=by exact YJ)(I:(Instr.buildSlice t 1 [(0,Value.agg row)].toArray).run P w=.ok (.slice (some ⟨w.heap.size,0,none⟩) 1 1) (w.alloc (.cells row tt)):=by kernel_rfl):wL P N ops Q (o::rest) l w:=nR (V:=λb=>.slice (some ⟨b,0,none⟩) 1 1) S (wn hw.1) hw.2.1 hw.2.2.1 (bD (vs:=[(0,.agg row)]) hw.2.2.2.1 ⟨E,hw.2.2.2.2,trivial⟩ I) h
def bsI(S:St B w0 w fs)(h:∀b w',St B w0 w' (.Oy b #[v] tt::fs)->wL P N ops Q rest ((d,.slice (some ⟨b,0,none⟩) 1 1)::l) w')(hw:gM o d N (o.op=.buildSlice t 1 [(0,x)].toArray/\ev l x=some v):=by exact⟨E,E,E,E,E⟩)(J:P.underlying t=some (.slice tt):=by exact YJ)(I:(Instr.buildSlice t 1 [(0,v)].toArray).run P w=.ok (.slice (some ⟨w.heap.size,0,none⟩) 1 1) (w.alloc (.cells #[v] tt)):=by kernel_rfl):wL P N ops Q (o::rest) l w:=nR (V:=λb=>.slice (some ⟨b,0,none⟩) 1 1) S (wn hw.1) hw.2.1 hw.2.2.1 (bD (vs:=[(0,v)]) hw.2.2.2.1 ⟨E,hw.2.2.2.2,trivial⟩ I) h
def zM(j:Nat)(I:ops[j]? =some o)(S:St B w0 w fs)(h:∀b w',St B w0 w' (.Oy b row tt::fs)->C w'/\wA P N ops Q C n ls'.toArray ((d,.slice (some ⟨b,0,none⟩) 1 1)::l) w')(J:Cv ls j ls':=by exact slQ)(hw:gM o d N (o.op=.buildSlice t 1 [(0,x)].toArray/\ev l x=some (.agg row)):=by exact⟨E,E,E,E,E⟩)(O:P.underlying t=some (.slice tt):=by exact YJ)(M:(Instr.buildSlice t 1 [(0,Value.agg row)].toArray).run P w=.ok (.slice (some ⟨w.heap.size,0,none⟩) 1 1) (w.alloc (.cells row tt)):=by kernel_rfl):wK P N ops Q C n j ls.toArray l w:=jm (V:=λb=>.slice (some ⟨b,0,none⟩) 1 1) I J.eq S (wn hw.1) hw.2.1 hw.2.2.1 (bD (vs:=[(0,.agg row)]) hw.2.2.2.1 ⟨E,hw.2.2.2.2,trivial⟩ M) h
inductive zO (l:P7):List Operand->List Value->Prop
 |z:zO l [] []
 |s {x:Operand} {xs:List Operand} {v:Value} {vs:List Value}:ev l x=some v->zO l xs vs->zO l (x::xs) (v::vs)
def zO.Jp{xs:List Operand}{vs:List Value}(h:zO l xs vs):TP l xs vs:=by
 induction h with
 |z=>exact trivial
 |s h _ I=>exact⟨h,I⟩
def yR(I:∀args w,(callFunc f args).run P w=.ok (.enter f args) w)(J:Calls P f us.toArray w R)(h:∀e w',R e w'-> ∃v,e=.returned v/\wL P N ops Q rest ((d,v)::l) w')(hw:gM o d N (o.op=.call {callee:=.value x,args:=xs.toArray,argTypes:=ts}):=by exact⟨E,E,E,E⟩)(hv:ev l x=some (.func (.func f) first.toArray cap.toArray):=by exact E)(M:zO l xs vs:=by repeat' first|exact zO.z|apply zO.s rfl)(O:first++vs++cap=us:=by exact E):wL P N ops Q (o::rest) l w:=KO (wn hw.1) hw.2.1 hw.2.2.1 (abP hw.2.2.2 hv I M.Jp O) J h
def pU{C:World->Prop}{n:Nat}{ls ls':List Bool}(j:Nat)(I:ops[j]? =some o)(J:∀args w,(callFunc f args).run P w=.ok (.enter f args) w)(M:Calls P f us.toArray w R)(h:∀e w',R e w'-> ∃v,e=.returned v/\C w'/\wA P N ops Q C n ls'.toArray ((d,v)::l) w')(O:Cv ls j ls':=by exact slQ)(hw:gM o d N (o.op=.call {callee:=.value x,args:=xs.toArray,argTypes:=ts}):=by exact⟨E,E,E,E⟩)(hv:ev l x=some (.func (.func f) first.toArray cap.toArray):=by exact E)(Z:zO l xs vs:=by repeat' first|exact zO.z|apply zO.s rfl)(hu:first++vs++cap=us:=by exact E):wK P N ops Q C n j ls.toArray l w:=zl I O.eq (wn hw.1) hw.2.1 hw.2.2.1 (abP hw.2.2.2 hv J Z.Jp hu) M h
def ku{C:World->Prop}{n:Nat}{ls ls':List Bool}(j:Nat)(I:ops[j]? =some o)(J:∀args w,(callFunc f args).run P w=.ok (.enter f args) w)(M:Calls P f vs.toArray w R)(h:∀e w',R e w'-> ∃v,e=.returned v/\C w'/\wA P N ops Q C n ls'.toArray ((d,v)::l) w')(O:Cv ls j ls':=by exact slQ)(hw:gM o d N (o.op=.call {callee:=.value (.func f),args:=xs.toArray,argTypes:=ts}):=by exact⟨E,E,E,E⟩)(Z:TP l xs vs:=by repeat' first|exact trivial|refine⟨rfl,?_⟩):wK P N ops Q C n j ls.toArray l w:=zl I O.eq (wn hw.1) hw.2.1 hw.2.2.1 (kF hw.2.2.2 J Z) M h
def LZ{g:Fn}(h:o.op=.makeFunc g xs.toArray ys.toArray:=by exact E)(I:zO l xs vs:=by repeat' first|exact zO.z|apply zO.s rfl)(J:zO l ys us:=by repeat' first|exact zO.z|apply zO.s rfl):kY P N l o w (.func g vs.toArray us.toArray):=Nz h I.Jp J.Jp
end
inductive QA (l:P7):List (Nat×Operand)->List (Nat×Value)->Prop
 |z:QA l [] []
 |s {i:Nat} {x:Operand} {xs:List (Nat×Operand)} {v:Value} {vs:List (Nat×Value)}:ev l x=some v->QA l xs vs->QA l ((i,x)::xs) ((i,v)::vs)
def QA.evp{xs:List (Nat×Operand)}{vs:List (Nat×Value)}(h:QA l xs vs):EvP l xs vs:=by
 induction h with
 |z=>exact trivial
 |s h _ I=>exact⟨E,h,I⟩
def iJ{t:TypeId}{xs:List (Nat×Operand)}{vs:List (Nat×Value)}(h:o.op=.build t xs.toArray:=by exact E)(I:QA l xs vs:=by repeat' first|exact QA.z|apply QA.s rfl)(J:(Instr.build t vs.toArray).run P w=.ok v w:=by kernel_rfl):kY P N l o w v:=F4 h I.evp J
section
variable {kd:IntKind}{xo yo:Operand}{x y z:Int}{t tt:TypeId}
def jW(I:o.op=.binOp .add t xo yo tt/\ev l xo=some (.int .i64 x)/\ev l yo=some (.int .i64 y):=by exact⟨E,E,E⟩)(J:x+y=z:=by omega)(h: -9223372036854775808<=z/\z<=9223372036854775807:=by omega):kY P N l o w (.int .i64 z):=cK I.1 I.2.1 I.2.2 (agA J h)
def ysu(I:o.op=.binOp .sub t xo yo tt/\ev l xo=some (.int .i64 x)/\ev l yo=some (.int .i64 y):=by exact⟨E,E,E⟩)(J:x-y=z:=by omega)(h: -9223372036854775808<=z/\z<=9223372036854775807:=by omega):kY P N l o w (.int .i64 z):=cK I.1 I.2.1 I.2.2 (azd J h)
def nC{p e:TypeId}{b off n c s:Nat}{i:Int}{xo yo:Operand}(k:Nat)(h:o.op=.indexAddr p xo yo/\ev l xo=some (.slice (some ⟨b,off,none⟩) n c)/\ev l yo=some (.int kd i):=by exact⟨E,E,E⟩)(J:P.underlying p=some (.slice e):=by exact YJ)(M:(P.info? e).map (·.size)=some s:=by exact iiQ)(I:i=k:=by first|rfl|omega|simp)(O:k<n:=by first|omega|simp|decide):kY P N l o w (.pointer (some ⟨b,off+k*s,none⟩)):=bF h.1 h.2.1 h.2.2 (rY k J M I O)
end
section
variable {b m off:Nat}{row row' cs:Array Value}{t ty:TypeId}{x y:Operand}{C:World->Prop}{n:Nat}{ls ls':List Bool}
def kZ(i:Nat)(S:St B w0 w fs)(I:(P.info? ty).map (·.size)=some m)(h:∀w',St B w0 w' fs'->wL P N ops Q rest l w')(hw:o.guard=none/\o.dst=none/\o.op=.store ty x y/\ev l x=some (.pointer (some ⟨b,off,none⟩))/\ev l y=some v:=by exact⟨E,E,E,E,E⟩)(hi:fs[i]? =some (.Oy b row t):=by exact E)(hv:v.cells=cs:=by exact E)(J:cs.size=m:=by exact E)(h1:∀u∈cs.toList,u.oneCell'=true:=by exact dx E)(M:ble (off+m) row.size=true:=by exact E)(hs:dU row off cs.toList=row':=by exact E)(O:jR (.Oy b row' t) fs i fs':=by repeat' first|exact jR.z|apply jR.s):wL P N ops Q (o::rest) l w:=Ii i S (wn hw.1) hw.2.1 hw.2.2.1 hw.2.2.2.1 hw.2.2.2.2 hi hv I J h1 (fV M) hs O.eq h
def stA(i:Nat)(S:St B w0 w fs)(I:(P.info? ty).map (·.size)=some m)(h:∀w',St B w0 w' fs'->wL P N ops Q rest l w')(hw:o.guard=none/\o.dst=none/\o.op=.store ty x y/\ev l x=some (.pointer (some ⟨b,0,none⟩))/\ev l y=some v:=by exact⟨E,E,E,E,E⟩)(hi:fs[i]? =some (.Oy b row t):=by exact E)(hv:v.cells=cs:=by exact E)(J:cs.size=m:=by exact E)(h1:∀u∈cs.toList,u.oneCell'=true:=by exact dx E)(hs:row.size=cs.size:=by exact E)(M:ble (0+m) row.size=true:=by exact E)(O:jR (.Oy b cs t) fs i fs':=by repeat' first|exact jR.z|apply jR.s):wL P N ops Q (o::rest) l w:=Ii i S (wn hw.1) hw.2.1 hw.2.2.1 hw.2.2.2.1 hw.2.2.2.2 hi hv I J h1 (fV M) (uM hs) O.eq h
def snz(j:Nat)(I:ops[j]? =some o)(i:Nat)(S:St B w0 w fs)(J:(P.info? ty).map (·.size)=some m)(h:∀w',St B w0 w' fs'->C w'/\wA P N ops Q C n ls'.toArray l w')(M:Cv ls j ls':=by exact slQ)(hw:o.guard=none/\o.dst=none/\o.op=.store ty x y/\ev l x=some (.pointer (some ⟨b,off,none⟩))/\ev l y=some v:=by exact⟨E,E,E,E,E⟩)(hi:fs[i]? =some (.Oy b row t):=by exact E)(hv:v.cells=cs:=by exact E)(O:cs.size=m:=by exact E)(h1:∀u∈cs.toList,u.oneCell'=true:=by exact dx E)(Z:ble (off+m) row.size=true:=by exact E)(hs:dU row off cs.toList=row':=by exact E)(hf:jR (.Oy b row' t) fs i fs':=by repeat' first|exact jR.z|apply jR.s):wK P N ops Q C n j ls.toArray l w:=wV I M.eq i S (wn hw.1) hw.2.1 hw.2.2.1 hw.2.2.2.1 hw.2.2.2.2 hi hv J O h1 (fV Z) hs hf.eq h
def YL(j:Nat)(I:ops[j]? =some o)(i:Nat)(S:St B w0 w fs)(J:(P.info? ty).map (·.size)=some m)(h:∀w',St B w0 w' fs'->C w'/\wA P N ops Q C n ls'.toArray l w')(M:Cv ls j ls':=by exact slQ)(hw:o.guard=none/\o.dst=none/\o.op=.store ty x y/\ev l x=some (.pointer (some ⟨b,0,none⟩))/\ev l y=some v:=by exact⟨E,E,E,E,E⟩)(hi:fs[i]? =some (.Oy b row t):=by exact E)(hv:v.cells=cs:=by exact E)(O:cs.size=m:=by exact E)(h1:∀u∈cs.toList,u.oneCell'=true:=by exact dx E)(hs:row.size=cs.size:=by exact E)(Z:ble (0+m) row.size=true:=by exact E)(hf:jR (.Oy b cs t) fs i fs':=by repeat' first|exact jR.z|apply jR.s):wK P N ops Q C n j ls.toArray l w:=wV I M.eq i S (wn hw.1) hw.2.1 hw.2.2.1 hw.2.2.2.1 hw.2.2.2.2 hi hv J O h1 (fV Z) (uM hs) hf.eq h
end
end
section
open ChangeAt ChangeMaps MapKept
open Go.Maps (Keyed IsMap Tidy)
def Oz(P:Program)(k:TypeId)(ks:List Int)(o:Obj):Prop:= ∃es clock,o=.map es clock/\
 ∀(w:World) (b:Nat),w.heap[b]? =some o-> ∃eZ:DataW Unit,w.ownsMap P k unitElem b ks.length eZ/\(∀z,Maps.has eZ (.int .i64 z)=decide (z∈ks))/\Maps.size eZ<=ks.length/\(Maps.size eZ<ks.length↔ ¬ks.Nodup)
section
variable {P:Program}{N:Nat}{l:P7}{w w' w0:World}{B:Nat}{fs:List OJ}{ops:Array Oper}{o:Oper}{rest:List Oper}{Q:Exit->Act->World->Prop}{d:Nat}
def abZ{k:TypeId}{ks:List Int}{b:Nat}{eZ:DataW Unit}(J:w.ownsMap P k unitElem b ks.length eZ)(M:∀z,Maps.has eZ (.int .i64 z)=decide (z∈ks))(hs:Maps.size eZ<=ks.length)(hn:Maps.size eZ<ks.length↔ ¬ks.Nodup):∃o,w.heap[b]? =some o/\Oz P k ks o:=by
 obtain⟨es,h,O,F,I,Z⟩:=J;refine⟨_,O,es,h,E,λw2 b2 h2=>⟨eZ,⟨es,h,h2,F,I,Z⟩,M,hs,hn⟩⟩
def aiH{k:TypeId}:Oz P k [] (.map #[] 0):=by
 have h:=World.ownsMap_made default P k (unitElem (H:=Unit));obtain⟨o,h1,I⟩:=abZ (ks:=[]) h (λz=>by simp[Maps.has_eq]) (by simp[Maps.size_eq]) (by simp[Maps.size_eq]);have:(World.alloc default (Obj.map #[] 0)).heap[(default:World).heap.size]? =some (.map #[] 0):=by
  show((default:World).heap.push _)[_]? =_
  rw[KJ,au E]
 rw[this]at h1
 cases h1;exact I
def aaz{t k:TypeId}(S:St B w0 w fs)(hw:Qb N ops l o true)(I:o.dst=some d)(J:blt d N=true)(M:o.op=.makeMap t none)
  (h:∀b w',St B w0 w' (.loc b (Oz P k [])::fs)->wL P N ops Q rest ((d,.map (some b))::l) w'):wL P N ops Q (o::rest) l w:=
 TR hw I J (Qn M (run_makeMap t w)) (h _ _ (S.VG aiH))
def aaA{ks:List Int}{z:Int}:(ks++[z]).Nodup↔ks.Nodup/\z ∉ ks:=by
 rw[nodup_append]
 constructor
 ·rintro⟨h1,_,I⟩;exact⟨h1,λh=>I z h z iQ E⟩
 rintro⟨h1,I⟩;exact⟨h1,by simp,λa M b J e=>by simp at J;subst J;subst e;exact I M⟩
def QB{t k e:TypeId}{m x y:Operand}{b:Nat}{ks:List Int}{z:Int}(i:Nat)(S:St B w0 w fs)(hw:Qb N ops l o true)(hd:o.dst=none)(ho:o.op=.mapUpdate t m x y)(hm:ev l m=some (.map (some b)))(hx:ev l x=some (.int .i64 z))(hy:ev l y=some (.agg #[]))
  (hi:fs[i]? =some (.loc b (Oz P k ks))) (hk:P.underlying k=some (.int .i64)) (ht:P.underlying t=some (.map k e)) (hz: -9223372036854775808<=z/\z<=9223372036854775807) (hn:ks.length<maxLen)
  (h:∀w',St B w0 w' (fs.set i (.loc b (Oz P k (ks++[z]))))->wL P N ops Q rest l w'):wL P N ops Q (o::rest) l w:=by
 obtain⟨ob,hb,es,clock,rfl,O⟩:=S.loc i hi;obtain⟨eZ,I,hh,hs,hnd⟩:=O w b hb;have K:Keyed P k:=Maps.int_keyed hk;have Z:keyOf P k (.int .i64 z)=some (.int .i64 z):=Maps.keyOf_int_mk hk (by simp[Lit.wf,IntKind.min,IntKind.max,IntKind.signed,IntKind.bits];omega);obtain⟨w',hrun,M,htu⟩:=I.store K ht hn Z (unitElem_mk (H:=Unit));have hlk:WideAt.IsKeyLit (.int .i64 z):=trivial;have J:=I.tidy K;have hmap:=I.isMap;obtain⟨o',ho',hR⟩:=abZ (ks:=ks++[z]) (by simpa using M) (λy=>by
  by_cases e:y=z
  ·subst e;rw[Maps.has_put_same hmap hlk];simp
  ·rw[Maps.has_put_other (by simpa using e),hh];simp[e]) (by
  rw[Maps.size_put J];simp
  split<;>omega) (by
  rw[Maps.size_put J,aaA,hh z];by_cases e:z∈ks
  ·simp[e];omega
  simp[e];omega)
 have hu:wS w b w':=by
  obtain⟨es1,c1,es2,c2,h1,rfl⟩:=htu;exact⟨E,E,E,by simp[setBlock],λj hj=>heap_setBlock_other h1 _ hj⟩
 exact Qm hw hd (Xx ho hm hx hy hrun) (h _ (S.YC i hi hu ho' hR))
def aiI{t k e:TypeId}{b:Nat}{ks:List Int}(i:Nat)(S:St B w0 w fs)(hi:fs[i]? =some (.loc b (Oz P k ks)))(M:P.underlying t=some (.map k e))(ty:TypeId):∃n:Nat,(∀cs,(builtin .len #[t] ty cs #[.map (some b)]).run P w=.ok (.value (.int .i64 n)) w)/\n<=ks.length/\(n<ks.length↔ ¬ks.Nodup):=by
 obtain⟨Z,O,es,J,rfl,h⟩:=S.loc i hi;obtain⟨eZ,I,hh,hs,hnd⟩:=h w b O;refine⟨Maps.size eZ,λcs=>?_,hs,hnd⟩;simp[builtin,I.len M ty,Sem.run_bind,Result.andThen]
end
end
def Fp{P:Program}(w:World)(t e ty:TypeId)(z:Value)(J:P.underlying t=some (.slice e))(hv:∀w,(zeroValue e).run P w=.ok z w)(Z:0<z.cells.size)(h1:∀u∈z.cells.toList,u.oneCell'=true)(b o c:Nat)
  (M:∀j,j<z.cells.size->(w.cell? ⟨b,o+j,none⟩).isSome=true) (O:∀j,j<z.cells.size->w.frozen? ⟨b,o+j,none⟩=false):
  (Builtin.clear_ #[t] ty #[.slice (some ⟨b,o,none⟩) 1 c]).run P w=.ok (.tuple #[]) (w.setCells b o z.cells.toList):=by
 have I:(Builtin.zeroCells z.cells 1).toList=z.cells.toList:=by
  simp[Builtin.zeroCells];apply ext_getElem
  ·simp
  intro i h1 h2;simp at h1;simp[mod_eq_of_lt h1,getElem!_pos z.cells i h1]
 have h:=run_storeCells_cells (P:=P) b o z.cells.toList 0 w (by simpa using M) (by simpa using O) h1;simp only[Nat.add_zero]at h;simp[Builtin.clear_,run_underlying J,hv,I,h]
def XD(g n c i base:Nat)(xs:List Value)(w:World)(ho:w.ownsRow base 225 4 (.slice (some ⟨g,0,none⟩) n c) n xs)(h1:∀u∈xs,u.oneCell'=true)(hi:i<n):
 Calls prog 130 #[.slice (some ⟨g,0,none⟩) n c,.int .i64 i,.int .i64 ((i:Int)+1)] w λe w'=>e=.returned (.slice (some ⟨g,0,none⟩) (n-1) c)/\wS w g w'/\w'.ownsRow base 225 4 (.slice (some ⟨g,0,none⟩) (n-1) c) (n-1) (xs.take (i*4)++xs.drop ((i+1)*4)):=by
 obtain⟨hxl,hx2⟩:=ho
 rcases hx2 with⟨hx2,_⟩|⟨g',cap,cur,hv,hg,hh,hnc,hcm,hsz,htk⟩
 ·cases hx2
 have hv':g=g'/\c=cap:=by
  simp only[Value.slice.injEq,Option.some.injEq,Addr.mk.injEq]at hv;exact⟨hv.1.1,hv.2.2⟩
 obtain⟨rfl,rfl⟩:=hv';clear hv;unfold maxLen at hcm;obtain⟨j0,hj0,VK,VL,VN⟩:=info_parts (show(prog.info? 225).map (λi=>(i.zero,i.size,i.bytes))=some (some (Value.agg #[.int .i64 0,.int .i64 0,.int .i64 0,.int .i64 0]),4,32) by kernel_rfl);have hzv:∀w,(zeroValue 225).run prog w=.ok (.agg #[.int .i64 0,.int .i64 0,.int .i64 0,.int .i64 0]) w:=zeroValue225;have B0:iM w g cur 225:=⟨hh⟩;obtain⟨news,hnews⟩:∃news,news=xs.drop ((i+1)*4):=⟨_,E⟩;have hlen:news.length=(n-(i+1))*4:=by rw[hnews,dO,hxl,FY]
 have hcx:∀(j:Nat) (u:Value),xs[j]? =some u->cur[j]? =some u:=by
  intro j u hu;have hj:j<n*4:=by have:=(dw.1 hu).1;omega
  rw[<-htk,xY hj]at hu;simpa using hu
 obtain⟨A,hA,hsrc⟩:∃A:Addr,(if c=i+1 then some (⟨g,0,none⟩:Addr)else some ⟨g,(i+1)*4,none⟩)=some A/\Hid (∀(t:Nat) (u:Value),news[t]? =some u->w.drew.cell? (A.add t)=some u):=by
  by_cases h:c=i+1
  ·refine⟨⟨g,0,none⟩,by simp[h],λt u hu=>?_⟩;have h0:news.length=0:=by rw[hlen];omega
   rw[pW.1 h0]at hu;simp at hu
  refine⟨⟨g,(i+1)*4,none⟩,by simp[h],λt u hu=>?_⟩;rw[hnews,Dm]at hu;rw[Go.WideShapes.add_plain];exact B0.drew.cell (hcx _ _ hu)
 have s1:Hid (news.length=(n-(i+1))*4):=hlen;have s2:Hid (∀u∈news,u.oneCell'=true):=λu hu=>h1 u (SX (by rw[hnews]at hu;exact hu));have s3:Hid (∀t,t<news.length->(w.drew.cell? ⟨g,0+i*4+t,none⟩).isSome=true/\w.drew.frozen? ⟨g,0+i*4+t,none⟩=false):=by
  intro t ht;rw[hlen]at ht;have hb:0+i*4+t<cur.size:=by rw[hsz];omega
  exact⟨by rw[B0.drew.cell (x9 hb)];rfl,B0.drew.free _⟩
 have B1:=lC news (0+i*4) B0.drew;have hs1:(dU cur (0+i*4) news).size=c*4:=by rw[qy,hsz]
 have hcl:Hid (∀ty,(Builtin.clear_ #[177] ty #[.slice (some ⟨g,(i+(n-(i+1)))*4,none⟩) (n-(i+(n-(i+1)))) (c-(i+(n-(i+1))))]).run prog (w.drew.setCells g (0+i*4) news)=.ok (.tuple #[]) ((w.drew.setCells g (0+i*4) news).setCells g ((i+(n-(i+1)))*4) (#[.int .i64 0,.int .i64 0,.int .i64 0,.int .i64 0]:Array Value).toList)):=by
  intro ty;rw[show n-(i+(n-(i+1)))=1 by omega];refine Fp _ _ 225 ty (.agg #[.int .i64 0,.int .i64 0,.int .i64 0,.int .i64 0]) underlying177 hzv (by simp[Value.cells]) (by simp[Value.cells,Value.oneCell']) g _ _ (λj hj=>?_) (λj hj=>B1.free _);have hj':j<4:=by simpa[Value.cells]using hj
  have hb:(i+(n-(i+1)))*4+j< (dU cur (0+i*4) news).size:=by rw[hs1];omega
  rw[B1.cell (x9 hb)];rfl
 have U:wS w g ((w.drew.setCells g (0+i*4) news).setCells g ((i+(n-(i+1)))*4) (#[.int .i64 0,.int .i64 0,.int .i64 0,.int .i64 0]:Array Value).toList):=(Jr w g).trans ((lD g _ _ _).trans (lD g _ _ _));have B2:=lC (#[.int .i64 0,.int .i64 0,.int .i64 0,.int .i64 0]:Array Value).toList ((i+(n-(i+1)))*4) B1;have hl2:(#[.int .i64 0,.int .i64 0,.int .i64 0,.int .i64 0]:Array Value).toList.length=4:=rfl;have hfin:(dU (dU cur (0+i*4) news) ((i+(n-(i+1)))*4) (#[.int .i64 0,.int .i64 0,.int .i64 0,.int .i64 0]:Array Value).toList).toList.take ((n-1)*4)=xs.take (i*4)++news:=by
  rw[jw _ _ _ (by rw[hs1,hl2];omega),jw _ _ _ (by rw[hlen,hsz];omega)];have e1:(n-1)*4=(i+(n-(i+1)))*4:=by congr 1;omega
  have a1:(cur.toList.take (0+i*4)).length=i*4:=by simp[hsz];omega
  rw[e1,gP,AB (by simp[hlen,hsz];omega),yh,Nat.min_self];rw[AB (by simp[hlen,hsz];omega),kg (by simp[hlen,hsz];omega)]
  congr 1
  rw[<-htk,yh,fU,KT Y]
 have HF:Hid (((w.drew.setCells g (0+i*4) news).setCells g ((i+(n-(i+1)))*4) (#[.int .i64 0,.int .i64 0,.int .i64 0,.int .i64 0]:Array Value).toList).ownsRow base 225 4 (.slice (some ⟨g,0,none⟩) (n-1) c) (n-1) (xs.take (i*4)++news)):=by
  refine⟨by rw[aZ,eD,hlen,hxl];omega,.inr ⟨g,c,_,E,hg,B2.Oy,by omega,hcm,by rw[qy,hs1],hfin⟩⟩
 rw[<-hnews];have HU:=Lib.hid U;clear hnews hlen hcx B0 B1 B2 hs1 hfin U hl2 hh hsz htk hxl h1 hg VK VN hzv;have hic:i<=c:=Y;have hjc:i+1<=c:=Y;have t1:((i:Int)==(i:Int)+1)=false:=by rw[Az];omega
 have t2:0<=(i:Int)+1:=Y;have t3:(i:Int)+1<=(n:Int):=Y;obtain⟨W1,hW⟩:∃W1,Hid (W1=w.drew.setCells g (0+i*4) news):=⟨_,Lib.hid E⟩;rw[<-hW.out]at hcl HF HU;generalize hZ:(#[.int .i64 0,.int .i64 0,.int .i64 0,.int .i64 0]:Array Value).toList=zs at hcl HF HU;clear hZ;have hcl:=hcl.out
 go_enter func130,ntmps130
 go_wp2_with fail
 go_region_law (refine step_append_room E (.tmp 22) (.tmp 25) 177 E 225 j0 4 underlying177 hj0 VL g 0 i c (by simp[Act.eval,Act.put]) A (n-(i+1)) (c-(i+1)) news (by simp[Act.eval,Act.put]) s1.out hsrc.out s2.out Y s3.out ?_;rw[<-hW.out])
 go_wp2_with fail
 go_ret
 refine⟨?_,HU.out,HF.out⟩;simp;omega
def XE(g n c i base:Nat)(xs:List Value)(w:World)(ho:w.ownsRow base 119 23 (.slice (some ⟨g,0,none⟩) n c) n xs)(h1:∀u∈xs,u.oneCell'=true)(hi:i<n):
 Calls prog 49 #[.slice (some ⟨g,0,none⟩) n c,.int .i64 i,.int .i64 ((i:Int)+1)] w λe w'=>e=.returned (.slice (some ⟨g,0,none⟩) (n-1) c)/\wS w g w'/\w'.ownsRow base 119 23 (.slice (some ⟨g,0,none⟩) (n-1) c) (n-1) (xs.take (i*23)++xs.drop ((i+1)*23)):=by
 obtain⟨hxl,hx2⟩:=ho
 rcases hx2 with⟨hx2,_⟩|⟨g',cap,cur,hv,hg,hh,hnc,hcm,hsz,htk⟩
 ·cases hx2
 have hv':g=g'/\c=cap:=by
  simp only[Value.slice.injEq,Option.some.injEq,Addr.mk.injEq]at hv;exact⟨hv.1.1,hv.2.2⟩
 obtain⟨rfl,rfl⟩:=hv';clear hv;unfold maxLen at hcm;obtain⟨j0,hj0,VK,VL,VN⟩:=info_parts (show(prog.info? 119).map (λi=>(i.zero,i.size,i.bytes))=some (some (Value.agg #[.int .i64 0,.int .i64 0,.int .i64 0,.int .i64 0,.int .i64 0,.int .i64 0,.int .i64 0,.int .i64 0,.int .i64 0,.int .i64 0,.int .i64 0,.int .i64 0,.int .i64 0,.slice none 0 0,.bool false,.int .i64 0,.int .i64 0,.int .i64 0,.int .i64 0,.int .i64 0,.int .i64 0,.int .i64 0,.int .i64 0]),23,200) by kernel_rfl);have hzv:∀w,(zeroValue 119).run prog w=.ok (.agg #[.int .i64 0,.int .i64 0,.int .i64 0,.int .i64 0,.int .i64 0,.int .i64 0,.int .i64 0,.int .i64 0,.int .i64 0,.int .i64 0,.int .i64 0,.int .i64 0,.int .i64 0,.slice none 0 0,.bool false,.int .i64 0,.int .i64 0,.int .i64 0,.int .i64 0,.int .i64 0,.int .i64 0,.int .i64 0,.int .i64 0]) w:=zeroValue119;have B0:iM w g cur 119:=⟨hh⟩;obtain⟨news,hnews⟩:∃news,news=xs.drop ((i+1)*23):=⟨_,E⟩;have hlen:news.length=(n-(i+1))*23:=by rw[hnews,dO,hxl,FY]
 have hcx:∀(j:Nat) (u:Value),xs[j]? =some u->cur[j]? =some u:=by
  intro j u hu;have hj:j<n*23:=by have:=(dw.1 hu).1;omega
  rw[<-htk,xY hj]at hu;simpa using hu
 obtain⟨A,hA,hsrc⟩:∃A:Addr,(if c=i+1 then some (⟨g,0,none⟩:Addr)else some ⟨g,(i+1)*23,none⟩)=some A/\Hid (∀(t:Nat) (u:Value),news[t]? =some u->w.drew.cell? (A.add t)=some u):=by
  by_cases h:c=i+1
  ·refine⟨⟨g,0,none⟩,by simp[h],λt u hu=>?_⟩;have h0:news.length=0:=by rw[hlen];omega
   rw[pW.1 h0]at hu;simp at hu
  refine⟨⟨g,(i+1)*23,none⟩,by simp[h],λt u hu=>?_⟩;rw[hnews,Dm]at hu;rw[Go.WideShapes.add_plain];exact B0.drew.cell (hcx _ _ hu)
 have s1:Hid (news.length=(n-(i+1))*23):=hlen;have s2:Hid (∀u∈news,u.oneCell'=true):=λu hu=>h1 u (SX (by rw[hnews]at hu;exact hu));have s3:Hid (∀t,t<news.length->(w.drew.cell? ⟨g,0+i*23+t,none⟩).isSome=true/\w.drew.frozen? ⟨g,0+i*23+t,none⟩=false):=by
  intro t ht;rw[hlen]at ht;have hb:0+i*23+t<cur.size:=by rw[hsz];omega
  exact⟨by rw[B0.drew.cell (x9 hb)];rfl,B0.drew.free _⟩
 have B1:=lC news (0+i*23) B0.drew;have hs1:(dU cur (0+i*23) news).size=c*23:=by rw[qy,hsz]
 have hcl:Hid (∀ty,(Builtin.clear_ #[91] ty #[.slice (some ⟨g,(i+(n-(i+1)))*23,none⟩) (n-(i+(n-(i+1)))) (c-(i+(n-(i+1))))]).run prog (w.drew.setCells g (0+i*23) news)=.ok (.tuple #[]) ((w.drew.setCells g (0+i*23) news).setCells g ((i+(n-(i+1)))*23) (#[.int .i64 0,.int .i64 0,.int .i64 0,.int .i64 0,.int .i64 0,.int .i64 0,.int .i64 0,.int .i64 0,.int .i64 0,.int .i64 0,.int .i64 0,.int .i64 0,.int .i64 0,.slice none 0 0,.bool false,.int .i64 0,.int .i64 0,.int .i64 0,.int .i64 0,.int .i64 0,.int .i64 0,.int .i64 0,.int .i64 0]:Array Value).toList)):=by
  intro ty;rw[show n-(i+(n-(i+1)))=1 by omega];refine Fp _ _ 119 ty (.agg #[.int .i64 0,.int .i64 0,.int .i64 0,.int .i64 0,.int .i64 0,.int .i64 0,.int .i64 0,.int .i64 0,.int .i64 0,.int .i64 0,.int .i64 0,.int .i64 0,.int .i64 0,.slice none 0 0,.bool false,.int .i64 0,.int .i64 0,.int .i64 0,.int .i64 0,.int .i64 0,.int .i64 0,.int .i64 0,.int .i64 0]) underlying91 hzv (by simp[Value.cells]) (by simp[Value.cells,Value.oneCell']) g _ _ (λj hj=>?_) (λj hj=>B1.free _);have hj':j<23:=by simpa[Value.cells]using hj
  have hb:(i+(n-(i+1)))*23+j< (dU cur (0+i*23) news).size:=by rw[hs1];omega
  rw[B1.cell (x9 hb)];rfl
 have U:wS w g ((w.drew.setCells g (0+i*23) news).setCells g ((i+(n-(i+1)))*23) (#[.int .i64 0,.int .i64 0,.int .i64 0,.int .i64 0,.int .i64 0,.int .i64 0,.int .i64 0,.int .i64 0,.int .i64 0,.int .i64 0,.int .i64 0,.int .i64 0,.int .i64 0,.slice none 0 0,.bool false,.int .i64 0,.int .i64 0,.int .i64 0,.int .i64 0,.int .i64 0,.int .i64 0,.int .i64 0,.int .i64 0]:Array Value).toList):=(Jr w g).trans ((lD g _ _ _).trans (lD g _ _ _));have B2:=lC (#[.int .i64 0,.int .i64 0,.int .i64 0,.int .i64 0,.int .i64 0,.int .i64 0,.int .i64 0,.int .i64 0,.int .i64 0,.int .i64 0,.int .i64 0,.int .i64 0,.int .i64 0,.slice none 0 0,.bool false,.int .i64 0,.int .i64 0,.int .i64 0,.int .i64 0,.int .i64 0,.int .i64 0,.int .i64 0,.int .i64 0]:Array Value).toList ((i+(n-(i+1)))*23) B1;have hl2:(#[.int .i64 0,.int .i64 0,.int .i64 0,.int .i64 0,.int .i64 0,.int .i64 0,.int .i64 0,.int .i64 0,.int .i64 0,.int .i64 0,.int .i64 0,.int .i64 0,.int .i64 0,.slice none 0 0,.bool false,.int .i64 0,.int .i64 0,.int .i64 0,.int .i64 0,.int .i64 0,.int .i64 0,.int .i64 0,.int .i64 0]:Array Value).toList.length=23:=rfl;have hfin:(dU (dU cur (0+i*23) news) ((i+(n-(i+1)))*23) (#[.int .i64 0,.int .i64 0,.int .i64 0,.int .i64 0,.int .i64 0,.int .i64 0,.int .i64 0,.int .i64 0,.int .i64 0,.int .i64 0,.int .i64 0,.int .i64 0,.int .i64 0,.slice none 0 0,.bool false,.int .i64 0,.int .i64 0,.int .i64 0,.int .i64 0,.int .i64 0,.int .i64 0,.int .i64 0,.int .i64 0]:Array Value).toList).toList.take ((n-1)*23)=xs.take (i*23)++news:=by
  rw[jw _ _ _ (by rw[hs1,hl2];omega),jw _ _ _ (by rw[hlen,hsz];omega)];have e1:(n-1)*23=(i+(n-(i+1)))*23:=by congr 1;omega
  have a1:(cur.toList.take (0+i*23)).length=i*23:=by simp[hsz];omega
  rw[e1,gP,AB (by simp[hlen,hsz];omega),yh,Nat.min_self];rw[AB (by simp[hlen,hsz];omega),kg (by simp[hlen,hsz];omega)]
  congr 1
  rw[<-htk,yh,fU,KT Y]
 have HF:Hid (((w.drew.setCells g (0+i*23) news).setCells g ((i+(n-(i+1)))*23) (#[.int .i64 0,.int .i64 0,.int .i64 0,.int .i64 0,.int .i64 0,.int .i64 0,.int .i64 0,.int .i64 0,.int .i64 0,.int .i64 0,.int .i64 0,.int .i64 0,.int .i64 0,.slice none 0 0,.bool false,.int .i64 0,.int .i64 0,.int .i64 0,.int .i64 0,.int .i64 0,.int .i64 0,.int .i64 0,.int .i64 0]:Array Value).toList).ownsRow base 119 23 (.slice (some ⟨g,0,none⟩) (n-1) c) (n-1) (xs.take (i*23)++news)):=by
  refine⟨by rw[aZ,eD,hlen,hxl];omega,.inr ⟨g,c,_,E,hg,B2.Oy,by omega,hcm,by rw[qy,hs1],hfin⟩⟩
 rw[<-hnews];have HU:=Lib.hid U;clear hnews hlen hcx B0 B1 B2 hs1 hfin U hl2 hh hsz htk hxl h1 hg VK VN hzv;have hic:i<=c:=Y;have hjc:i+1<=c:=Y;have t1:((i:Int)==(i:Int)+1)=false:=by rw[Az];omega
 have t2:0<=(i:Int)+1:=Y;have t3:(i:Int)+1<=(n:Int):=Y;obtain⟨W1,hW⟩:∃W1,Hid (W1=w.drew.setCells g (0+i*23) news):=⟨_,Lib.hid E⟩;rw[<-hW.out]at hcl HF HU;generalize hZ:(#[.int .i64 0,.int .i64 0,.int .i64 0,.int .i64 0,.int .i64 0,.int .i64 0,.int .i64 0,.int .i64 0,.int .i64 0,.int .i64 0,.int .i64 0,.int .i64 0,.int .i64 0,.slice none 0 0,.bool false,.int .i64 0,.int .i64 0,.int .i64 0,.int .i64 0,.int .i64 0,.int .i64 0,.int .i64 0,.int .i64 0]:Array Value).toList=zs at hcl HF HU;clear hZ;have hcl:=hcl.out
 go_enter func49,ntmps49
 go_wp2_with fail
 go_region_law (refine step_append_room E (.tmp 22) (.tmp 25) 91 E 119 j0 23 underlying91 hj0 VL g 0 i c (by simp[Act.eval,Act.put]) A (n-(i+1)) (c-(i+1)) news (by simp[Act.eval,Act.put]) s1.out hsrc.out s2.out Y s3.out ?_;rw[<-hW.out])
 go_wp2_with fail
 go_ret
 refine⟨?_,HU.out,HF.out⟩;simp;omega
section
open ChangeAt ChangeMaps MapKept
open Go.Maps (Keyed IsMap Tidy)
def KV(v:Value):Option (DataW Value×List MemPlace):=some (.held v,[])
def sP(P:Program)(k:TypeId)(f:Int->Option Value)(n:Nat)(o:Obj):Prop:= ∃es clock,o=.map es clock/\
 ∀(w:World) (b:Nat),w.heap[b]? =some o-> ∃eZ:DataW Value,w.ownsMap P k KV b n eZ/\ ∀z v,f z=some v-> ∀zd,eZ.atKey (.int .i64 z) zd=.held v
section
variable {P:Program}{N:Nat}{l:P7}{w w' w0:World}{B:Nat}{fs:List OJ}{ops:Array Oper}{o:Oper}{rest:List Oper}{Q:Exit->Act->World->Prop}{d:Nat}
def ab0{k:TypeId}{f:Int->Option Value}{n b:Nat}{eZ:DataW Value}(J:w.ownsMap P k KV b n eZ)(M:∀z v,f z=some v-> ∀zd,eZ.atKey (.int .i64 z) zd=.held v):∃o,w.heap[b]? =some o/\sP P k f n o:=by
 obtain⟨es,h,O,F,I,Z⟩:=J;exact⟨_,O,es,h,E,λw2 b2 h2=>⟨eZ,⟨es,h,h2,F,I,Z⟩,M⟩⟩
def aiJ{k:TypeId}:sP P k (λ_=>none) 0 (.map #[] 0):=by
 have h:=World.ownsMap_made default P k KV;obtain⟨o,h1,I⟩:=ab0 (f:=λ_=>none) h (λz v hv=>by cases hv);have:(World.alloc default (Obj.map #[] 0)).heap[(default:World).heap.size]? =some (.map #[] 0):=by
  show((default:World).heap.push _)[_]? =_
  rw[KJ,au E]
 rw[this]at h1
 cases h1;exact I
def MJ{t k:TypeId}(S:St B w0 w fs)(hw:Qb N ops l o true)(I:o.dst=some d)(J:blt d N=true)(M:o.op=.makeMap t none)
  (h:∀b w',St B w0 w' (.loc b (sP P k (λ_=>none) 0)::fs)->wL P N ops Q rest ((d,.map (some b))::l) w'):wL P N ops Q (o::rest) l w:=
 TR hw I J (Qn M (run_makeMap t w)) (h _ _ (S.VG aiJ))
def aiK{t:TypeId}{m x y:Operand}{p q r:Value}(h:o.op=.insert t m x y)(I:ev l m=some p)(J:ev l x=some q)(M:ev l y=some r)(O:(Instr.mapUpdate t p q r).run P w=.ok () w'):Eff P N l o w w':=λa F=>by
 unfold execOp;simp[h,F.ev I,F.ev J,F.ev M,O,Result.andThen]
def mW{t k e:TypeId}{m x y:Operand}{b n:Nat}{f:Int->Option Value}{z:Int}{v:Value}(i:Nat)(S:St B w0 w fs)(hw:Qb N ops l o true)(hd:o.dst=none)(ho:o.op=.insert t m x y)(hm:ev l m=some (.map (some b)))(hx:ev l x=some (.int .i64 z))(hy:ev l y=some v)
  (hi:fs[i]? =some (.loc b (sP P k f n))) (hk:P.underlying k=some (.int .i64)) (ht:P.underlying t=some (.map k e)) (hz: -9223372036854775808<=z/\z<=9223372036854775807) (hn:n<maxLen)
  (h:∀w',St B w0 w' (fs.set i (.loc b (sP P k (λy=>if y=z then some v else f y) (n+1))))->wL P N ops Q rest l w'):wL P N ops Q (o::rest) l w:=by
 obtain⟨ob,hb,es,clock,rfl,O⟩:=S.loc i hi;obtain⟨eZ,I,hf⟩:=O w b hb;have K:Keyed P k:=Maps.int_keyed hk;have Z:keyOf P k (.int .i64 z)=some (.int .i64 z):=Maps.keyOf_int_mk hk (by simp[Lit.wf,IntKind.min,IntKind.max,IntKind.signed,IntKind.bits];omega);obtain⟨w',hrun,J,htu⟩:=I.store K ht hn Z (d:=.held v) (ps:=[]) E;have hlk:WideAt.IsKeyLit (.int .i64 z):=trivial;have hmap:=I.isMap;obtain⟨o',ho',hR⟩:=ab0 (f:=λy=>if y=z then some v else f y) J (λy u M zd=>by
  by_cases e:y=z
  ·subst e;rw[au E]at M
   cases M;exact Maps.atKey_put_same hmap hlk _ _
  rw[ah e]at M;rw[Maps.atKey_put_other (by simpa using e)];exact hf y u M zd)
 have M:wS w b w':=by
  obtain⟨es1,c1,es2,c2,h1,rfl⟩:=htu;exact⟨E,E,E,by simp[setBlock],λj hj=>heap_setBlock_other h1 _ hj⟩
 exact Qm hw hd (aiK ho hm hx hy hrun) (h _ (S.YC i hi M ho' hR))
def lY{t k e:TypeId}{x y:Operand}{b n:Nat}{f:Int->Option Value}{z:Int}{v u:Value}(i:Nat)(S:St B w0 w fs)(ho:o.op=.lookup t x y false)(hx:ev l x=some (.map (some b)))(hy:ev l y=some (.int .i64 z))
  (hi:fs[i]? =some (.loc b (sP P k f n))) (hk:P.underlying k=some (.int .i64)) (ht:P.underlying t=some (.map k e)) (hu:(zeroValue e).run P w=.ok u w) (hz: -9223372036854775808<=z/\z<=9223372036854775807) (hf:f z=some v):kY P N l o w v:=λa F=>by
 obtain⟨ob,hb,es,O,rfl,h⟩:=S.loc i hi;obtain⟨eZ,I,hD⟩:=h w b hb;have K:Keyed P k:=Maps.int_keyed hk;have J:keyOf P k (.int .i64 z)=some (.int .i64 z):=Maps.keyOf_int_mk hk (by simp[Lit.wf,IntKind.min,IntKind.max,IntKind.signed,IntKind.bits];omega);obtain⟨v',ps,M,Z⟩:=I.lookup K ht hu (zd:=.held u) (zp:=[]) E J;rw[hD z v hf]at Z;simp only[KV,Option.some.injEq,Prod.mk.injEq,DataW.held.injEq]at Z;obtain⟨rfl,_⟩:=Z;unfold execOp;simp[ho,F.ev hx,F.ev hy,M,Result.andThen]
end
end
structure Ac where
 kd:Int
 nd:Int
 qu:Int
 at_:Int
 kp:Int
 ek:Int
 ep:Int
 ei:Int
 eb:Int
 eh:Int
 en:Int
def Ac.TQ(x:Ac):List Int:=[x.kd,x.nd,x.qu,x.at_,x.kp,x.ek,x.ep,x.ei,x.eb,x.eh,x.en]
def O6(l:List Int):List Value:=l.map (Value.int .i64)
def Ac.cells(x:Ac):List Value:=[D x.kd,D x.nd,D x.qu,D x.at_,D x.kp,D x.ek,D x.ep,D x.ei,D x.eb,D x.eh,D x.en]
def Ac.aiL(x:Ac):x.cells=O6 x.TQ:=rfl
def Ac.get(x:Ac)(i:Nat):Int:=x.TQ.getD i 0
def Ac.cell(x:Ac){i:Nat}(h:i<11):x.cells[i]? =some (D (x.get i)):=by
 rw[Ac.aiL,O6,vX,eT (by exact h)];have e:x.get i=x.TQ[i]'h:=by simp only[Ac.get,getD_eq_getElem?_getD,getElem?_eq_getElem (show i<x.TQ.length from h),Option.getD_some];rfl
 rw[e];rfl
def dD(kd ek:Int):Option (List (Nat×Int)):=
 if kd=1 then some [(2,3),(1,4)]else if kd=10 then some [(2,3),(1,4)]else if kd=3 then some [(1,4)]else if kd=9 then some [(1,4)]
 else if kd=8 then some [(1,4),(4,100000)]else if kd=4 then some [(3,1048576)]else if kd=5 then some [(3,1048576)]else if kd=6 then some [(3,1048576)]
 else if kd=7 then some []else if kd=2 then(if ek=1 then some [(1,4),(2,3),(6,3),(7,1073741824),(8,1000000)]else if ek=2 then some [(1,4),(2,3)]
 else if ek=3 then some [(1,4),(2,3),(9,1048576),(10,1073741824)]else none)else none
def kinds(kd ek:Int):kd=1\/kd=10\/kd=3\/kd=9\/kd=8\/kd=4\/kd=5\/kd=6\/kd=7\/(kd=2/\ek=1)\/(kd=2/\ek=2)\/(kd=2/\ek=3)\/dD kd ek=none:=by
 by_cases h1:kd=1
 ·simp[h1]
 by_cases h:kd=10
 ·simp[h]
 by_cases J:kd=3
 ·simp[J]
 by_cases M:kd=9
 ·simp[M]
 by_cases O:kd=8
 ·simp[O]
 by_cases Z:kd=4
 ·simp[Z]
 by_cases h5:kd=5
 ·simp[h5]
 by_cases h6:kd=6
 ·simp[h6]
 by_cases h7:kd=7
 ·simp[h7]
 by_cases I:kd=2
 ·by_cases e1:ek=1
  ·simp[I,e1]
  by_cases e2:ek=2
  ·simp[I,e2]
  by_cases e3:ek=3
  ·simp[I,e3]
  simp[dD,I,e1,e2,e3]
 simp[dD,I,h1,h,J,M,O,Z,h5,h6,h7]
def SY{kd ek:Int}{l:List (Nat×Int)}(h:dD kd ek=some l):∀p∈l,1<=p.1/\p.1<11/\p.1≠5:=by
 rcases kinds kd ek with rfl|rfl|rfl|rfl|rfl|rfl|rfl|rfl|rfl|⟨rfl,rfl⟩|⟨rfl,rfl⟩|⟨rfl,rfl⟩|hn
 all_goals first|(rw[hn]at h;cases h;done)|(simp[dD]at h;subst h;decide)
def aiM{kd ek:Int}{l:List (Nat×Int)}(h:dD kd ek=some l):l.length<=5:=by
 rcases kinds kd ek with rfl|rfl|rfl|rfl|rfl|rfl|rfl|rfl|rfl|⟨rfl,rfl⟩|⟨rfl,rfl⟩|⟨rfl,rfl⟩|hn
 all_goals first|(rw[hn]at h;cases h;done)|(simp[dD]at h;subst h;decide)
def QC(x:Ac)(p:Nat×Int):Bool:=decide (0<=x.get p.1/\x.get p.1<=p.2)
def BN(c:List Int)(l:List (Nat×Int)):List Int:=l.foldl (λc p=>c.set p.1 0) c
def fin(x:Ac)(l:List (Nat×Int)):List Int:=(if x.kd=2 then(BN x.TQ l).set 5 0 else BN x.TQ l).set 0 0
def UW:List Int:=[0,0,0,0,0,0,0,0,0,0,0]
def dn(x:Ac):Int:=match dD x.kd x.ek with
 |none=>3
 |some l=>if l.all (QC x)=true then(if fin x l=UW then 0 else 3)else 2
def keep(x:Ac):Ac:=
 if x.kd=1 then⟨x.kd,x.nd,x.qu,0,0,0,0,0,0,0,0⟩else if x.kd=10 then⟨x.kd,x.nd,x.qu,0,0,0,0,0,0,0,0⟩else if x.kd=3 then⟨x.kd,x.nd,0,0,0,0,0,0,0,0,0⟩else if x.kd=9 then⟨x.kd,x.nd,0,0,0,0,0,0,0,0,0⟩
 else if x.kd=8 then⟨x.kd,x.nd,0,0,x.kp,0,0,0,0,0,0⟩else if x.kd=4 then⟨x.kd,0,0,x.at_,0,0,0,0,0,0,0⟩else if x.kd=5 then⟨x.kd,0,0,x.at_,0,0,0,0,0,0,0⟩else if x.kd=6 then⟨x.kd,0,0,x.at_,0,0,0,0,0,0,0⟩
 else if x.kd=7 then⟨x.kd,0,0,0,0,0,0,0,0,0,0⟩else if x.ek=1 then⟨x.kd,x.nd,x.qu,0,0,x.ek,x.ep,x.ei,x.eb,0,0⟩else if x.ek=2 then⟨x.kd,x.nd,x.qu,0,0,x.ek,0,0,0,0,0⟩else⟨x.kd,x.nd,x.qu,0,0,x.ek,0,0,0,x.eh,x.en⟩
def aiN{x:Ac}{l:List (Nat×Int)}(h:dD x.kd x.ek=some l):x.TQ=(keep x).TQ↔fin x l=UW:=by
 obtain⟨kd,nd,qu,at_,kp,ek,ep,ei,eb,eh,en⟩:=x
 rcases kinds kd ek with rfl|rfl|rfl|rfl|rfl|rfl|rfl|rfl|rfl|⟨rfl,rfl⟩|⟨rfl,rfl⟩|⟨rfl,rfl⟩|hn
 all_goals first|(dsimp only at h;rw[hn]at h;cases h)|(simp[dD]at h;subst h;simp[Ac.TQ,keep,fin,BN,UW];try omega)
def am8{x y:Ac}(h:x.TQ=y.TQ):x=y:=by
 obtain⟨a1,a2,a3,a4,a5,a6,a7,a8,a9,a10,a11⟩:=x;obtain⟨b1,b2,b3,b4,b5,b6,b7,M,O,I,J⟩:=y;simpa[Ac.TQ]using h
section
variable {x:Ac}{l:List (Nat×Int)}
def ab1(h:dD x.kd x.ek=none):dn x=3:=by unfold dn;rw[h]
def MK(h:dD x.kd x.ek=some l)(I:¬l.all (QC x)=true):dn x=2:=by unfold dn;rw[h];exact ah I
def Ta(h:dD x.kd x.ek=some l)(I:l.all (QC x)=true)(J:¬fin x l=UW):dn x=3:=by unfold dn;rw[h];simp only[if_pos I,if_neg J]
def apu(h:dD x.kd x.ek=some l)(I:l.all (QC x)=true)(J:fin x l=UW):dn x=0:=by unfold dn;rw[h];simp only[if_pos I,if_pos J]
def aiO{k:Nat}{p:Nat×Int}(h:l[k]? =some p)(I:(l.take k).all (QC x)=true)(J:0<=x.get p.1/\x.get p.1<=p.2):(l.take (k+1)).all (QC x)=true:=by
 rw[qY,h,all_append,I];simp[QC,J]
def ab2{k:Nat}{p:Nat×Int}(h:l[k]? =some p)(I:¬(0<=x.get p.1/\x.get p.1<=p.2)):¬l.all (QC x)=true:=λJ=>by
 have:=all_eq_true.1 J p (jN h);simp only[QC,decide_eq_true_eq]at this;exact I this
def aiP{c:List Int}{k:Nat}{p:Nat×Int}(h:l[k]? =some p):(BN c (l.take k)).set p.1 0=BN c (l.take (k+1)):=by
 unfold BN;rw[qY,h,uj];rfl
def AJ(c:List Int):∀(l:List (Nat×Int)),(BN c l).length=c.length
 |[]=>rfl
 |p::l=>by
  show(BN (c.set p.1 0) l).length=_
  rw[AJ _ l,length_set]
def VO:∀(l:List (Nat×Int)) (c:List Int),(∀p∈l,1<=p.1)->(BN c l)[0]? =c[0]?
 |[],_,_=>rfl
 |p::l,c,h=>by
  show(BN (c.set p.1 0) l)[0]? =_
  rw[VO l _ λq I=>h q (dM _ I),KL (by have:=h p (gJ ..);omega)]
end
def rZ(c:List Int):Array Value:=(O6 c).toArray
def qd{c:List Int}(h:c.length=11):(rZ c).size=11:=by simp[rZ,O6,h]
def adU{c:List Int}{i:Nat}{v:Int}(h:c[i]? =some v):(rZ c)[i]? =some (D v):=by simp[rZ,O6,h]
def Ea{c:List Int}{i:Nat}:(rZ c).setIfInBounds i (D 0)=rZ (c.set i 0):=by
 apply Av.1;simp[rZ,O6,Array.toList_setIfInBounds,map_set]
def am9:flat prog 30 51=some (replicate 11 (.at_ (.int .i64))):=kQ
def ana:GJ prog 30 51=true:=kQ
def atZ(xs:List Value):mkV prog 51 xs=.agg xs.toArray:=by
 unfold mkV;rw[underlying51]
def ahm{a b:List Int}(I:a.length=11)(J:b.length=11)(w:World):(binOp .neq 51 (.agg (rZ a)) (.agg (rZ b))).run prog w=.ok (.bool (!decide (a=b))) w:=by
 have M:=AA a;have O:=AA b;rw[I]at M;rw[J]at O;have h:=vE (P:=prog) w am9 ana atZ M O;rw[BL (by rw[I,J])]at h;exact h
abbrev oZ:Array Value:= #[D 0,.bool false,.bool false,.bool false,.bool false,.bool false,D 0,D 0,D 0,D 0,D 0,D 0,D 0,D 0,.slice none 0 0,.slice none 0 0,.slice none 0 0,D 0]
abbrev aR (a:Ac):Array Value:= #[D a.kd,D a.nd,D a.qu,D a.at_,D a.kp,D a.ek,D a.ep,D a.ei,D a.eb,D a.eh,D a.en]
section
variable {P:Program}{N:Nat}{l:P7}{w:World}{fn:Func}{R:Ending->World->Prop}{p:Prop}[Decidable p]
def q9(h:R (.returned (uK [])) w)(I:fn.results=([]:List ResultVar).toArray:=by exact E):wQ N (bodyPost P fn R) .normal l w:=Ql (rs:=[]) (vs:=[]) I trivial h
def reT(h:p):Ending.returned (.bool true)=.returned (.bool (decide p)):=by rw[ko h]
def Cj(h:¬p):Ending.returned (.bool false)=.returned (.bool (decide p)):=by rw[jf h]
end
section
open ChangeAt
def VP{α:Type}{enc:α->List Value}{sz:Nat}(h:∀x,(enc x).length=sz):∀(k:Nat) (l:List α),(l.flatMap enc).drop (k*sz)=(l.drop k).flatMap enc
 | 0,l=>by simp
 |k+1,[]=>by simp
 |k+1,x::l=>by rw[nM,mR,qU,<-lW,drop_left' (h x),VP h k l];rfl
def VQ{α:Type}{enc:α->List Value}{sz:Nat}(h:∀x,(enc x).length=sz):∀(k:Nat) (l:List α),(l.flatMap enc).take (k*sz)=(l.take k).flatMap enc
 | 0,l=>by simp
 |k+1,[]=>by simp
 |k+1,x::l=>by rw[nM,mR,qU,take_append,h x,kg (by rw[h x];omega),Gc,VQ h k l];rfl
def Iw{P:Program}{t e:TypeId}{α:Type}{enc:α->List Value}{s:Nat}(h:∀x,(enc x).length=s){A:Option Addr}{b:List α}{n c:Nat}{lo hi mx:Option Value}{l k q m c':Nat}(hu:P.underlying t=some (.slice e))(hz:(P.info? e).map (·.size)=some s)(hb:∀w,(Instr.sliceBounds true n c lo hi mx).run P w=.ok (l,k,q) w)
  (J:l<=k) (M:k<=n) (O:k<=q) (hm:k-l=m) (hc:q-l=c'):∃A',(∀w,(Instr.sliceAt t (.slice A n c) lo hi mx).run P w=.ok (.slice A' m c') w)/\(∀(w:World) (B:Nat),Rd w B s A n (b.flatMap enc)->Rd w B s A' m (((b.drop l).take m).flatMap enc))/\ ∀Z,A'=some Z-> ∃a,A=some a/\a.block=Z.block:=by
 subst hm;subst hc;obtain⟨A',h1,I,h3⟩:=D9 (A:=A) hu hz hb J M O;refine⟨A',h1,λw B hR=>?_,h3⟩
 replace I:=I w B _ hR
 rw[VP h,VQ h]at I;exact I
end
section
open Go.RowKit
def Ck(n:Int):List UInt8:=[UInt8.ofNat (n / 16777216).toNat,UInt8.ofNat (n / 65536 % 256).toNat,UInt8.ofNat (n / 256 % 256).toNat,UInt8.ofNat (n % 256).toNat]
def adW{n:Int}(I:0<=n)(h1:n<=2147483647):
 Jq (Ck n)=[.int .u8 (n / 16777216),.int .u8 (n / 65536 % 256),.int .u8 (n / 256 % 256),.int .u8 (n % 256)]:=by
 have h:∀m:Int,0<=m->m<=255->((UInt8.ofNat m.toNat).toNat:Int)=m:=by
  intro m a b;simp;omega
 simp only[Jq,Ck,map_cons,map_nil];rw[h _ Y Y,h _ Y Y,h _ Y Y,h _ Y Y]
def um(n:Int):List UInt8×Int:=if 0<=n/\n<=2147483647 then(Ck n,0)else([],2)
def qE(w:World)(r:List UInt8×Int)(e:Ending)(w':World):Prop:=
 ∃A c,e=.returned (.tuple #[.slice A r.1.length c,.int .i64 r.2])/\Below w.heap.size w w'/\Rd w' w'.heap.size 1 A r.1.length (Jq r.1)
def qE.Ur(w:World)(k:Int):qE w ([],k) (.returned (.tuple #[.slice none 0 0,.int .i64 k])) w:=
 ⟨none,0,E,Below.refl _ _,Rd.Ur⟩
def qE.four(w:World)(n:Int)(h0:0<=n)(h1:n<=2147483647)(t:TypeId):
 qE w (Ck n,0) (.returned (.tuple #[.slice (some ⟨w.heap.size,0,none⟩) 4 4,.int .i64 0])) (w.alloc (.cells #[.int .u8 (n / 16777216),.int .u8 (n / 65536 % 256),.int .u8 (n / 256 % 256),.int .u8 (n % 256)] t)):=by
 refine⟨_,4,E,by go_grown,?_⟩;have:=Rd.akz w t (Jq (Ck n)) 4 1 (by simp[Jq,Ck]);rw[adW h0 h1]at this⊢;have e4:(Ck n).length=4:=rfl;simpa[e4]using this
def ags(n:Int)(w:World):Calls prog 117 #[.int .i64 n] w (qE w (um n)):=by
 by_cases h:0<=n/\n<=2147483647
 ·have hm:um n=(Ck n,0):=au h;rw[hm];clear hm;obtain⟨h0,h1⟩:=h
  go_enter func117,ntmps117
  go_wp2
  go_ret2
  exact qE.four w n h0 h1 _
 have hm:um n=([],2):=ah h;rw[hm];clear hm;by_cases h0:n<0
 ·clear h
  go_enter func117,ntmps117
  go_wp2
  go_ret2
  exact qE.Ur w 2
 have h1:2147483647<n:=Y;clear h
 go_enter func117,ntmps117
 go_wp2
 go_ret2
 exact qE.Ur w 2
def Gj:(prog.info? 5).map (λi=>(i.zero,i.size,i.bytes))=some (some (.int .u8 0),1,1):=kQ
def rz:List UInt8->Int×Int
 |a::b::c::d::_=>if 127<a.toNat then(0,2)else(16777216*(a.toNat:Int)+65536*(b.toNat:Int)+256*(c.toNat:Int)+(d.toNat:Int),0)
 |_=>(0,4)
def J8{l:List UInt8}(h:l.length<4):rz l=(0,4):=by
 match l,h with
 |[],_=>rfl
 |[_],_=>rfl
 |[_,_],_=>rfl
 |[_,_,_],_=>rfl
def anb{l:List UInt8}(h:¬l.length<4):∃a b c d r,l=a::b::c::d::r:=by
 match l,h with
 |a::b::c::d::r,_=>exact⟨a,b,c,d,r,E⟩
 |[],h=>simp at h
 |[_],h=>simp at h
 |[_,_],h=>simp at h
 |[_,_,_],h=>simp at h
def Zm(a:UInt8):0<=(a.toNat:Int)/\(a.toNat:Int)<=255:=by
 have:=a.toNat_lt;omega
def aaB(A:Option Addr)(n c:Nat)(l:List UInt8)(w:World){B:Nat}(h:Rd w B 1 A n (Jq l))(hn:n<=c):
 Calls prog 115 #[.slice A n c] w λe w'=>e=.returned (.tuple #[.int .i64 (rz l).1,.int .i64 (rz l).2])/\w=w':=by
 have hl:=h.qD;by_cases h4:l.length<4
 ·rw[J8 h4];have hn4:n<4:=Y;clear hl h4
  go_enter func115,ntmps115
  go_wp2
  go_ret2
  exact⟨E,E⟩
 have hn4:4<=n:=Y;have hc4:4<=c:=Y;obtain⟨x0,x1,x2,x3,r,rfl⟩:=anb h4;obtain⟨b,off,rfl,_,hcell⟩:=h.2 Y;have c0:=hcell 0 (.int .u8 x0.toNat) E;have c1:=hcell 1 (.int .u8 x1.toNat) E;have c2:=hcell 2 (.int .u8 x2.toNat) E;have c3:=hcell 3 (.int .u8 x3.toNat) E;rw[Nat.add_zero]at c0;have b0:=Zm x0;have b1:=Zm x1;have b2:=Zm x2;have b3:=Zm x3;have q0:=aC4 x0.toNat Y Y;have q1:=or8 x0.toNat x1.toNat Y Y Y Y;have q2:=or8 (x0.toNat*256+x1.toNat) x2.toNat Y Y Y Y;have q3:=or8 ((x0.toNat*256+x1.toNat)*256+x2.toNat) x3.toNat Y Y Y Y;have hm:rz (x0::x1::x2::x3::r)=if 127<x0.toNat then(0,2)else(16777216*(x0.toNat:Int)+65536*(x1.toNat:Int)+256*(x2.toNat:Int)+(x3.toNat:Int),0):=rfl
 clear h hl h4 hcell;by_cases hx:127<x0.toNat
 ·rw[hm,au hx];clear hm
  go_enter func115,ntmps115
  go_wp2
  go_rounds 5
  go_ret2
  exact⟨E,E⟩
 rw[hm,ah hx];clear hm
 go_enter func115,ntmps115
 go_wp2
 go_rounds 5
 go_ret2
 exact⟨al3 Y,E⟩
end
def KW{w:World}{base:Nat}{e:TypeId}{size n c:Nat}{A:Option Addr}{xs:List Value}(h:w.ownsRow base e size (.slice A n c) n xs):n<=c:=by
 obtain⟨A2,c2,hv,I,_⟩:=nX h;simp only[Value.slice.injEq]at hv;obtain⟨_,_,rfl⟩:=hv;exact I
def abW(w:World)(e:TypeId)(size:Nat):(w.alloc (.cells #[] e)).ownsRow w.heap.size e size (.slice (some ⟨w.heap.size,0,none⟩) 0 0) 0 []:=by
 refine⟨by simp,.inr ⟨w.heap.size,0,#[],E,aB,heap_alloc_new w _,aB,aG _,by simp,by simp⟩⟩
def ahl(A:Option Addr)(n c:Nat)(l:List UInt8)(w:World)(h:Rd w w.heap.size 1 A n (Jq l))(hc:n<=reachBytes):
 Calls prog 69 #[.slice A n c] w (kS w 5 1 n (Jq l)):=by
 have hc':n<=140737488351232:=hc;obtain⟨i0,hi0,hz0,hz1,hz2⟩:=info_parts Gj
 cases A with
 |none=>
  have hn:n=0:=by
   rcases Au n with h0|h0
   ·exact h0
   obtain⟨b,off,e,_⟩:=h.2 h0
   cases e
  subst hn;have hl:Jq l=[]:=FZ (by have:=h.1;omega);rw[hl];clear hl h
  go_enter func69,ntmps69
  have he:= @Lib.run_eql_slice_nil prog
  go_wp2
  go_ret
  exact kS.of (Below.refl _ _) (kH _ _ _ _)
 |some a=>
  go_enter func69,ntmps69
  have he:= @Lib.run_eql_slice_nil prog
  go_wp2_with (at_builtin;refine kW _ E (.tmp 5) (.tmp 6) _ E w.heap.size 5 i0 _ 1 1 underlying99 hi0 hz0 hz1 hz2 E Y (.slice (some ⟨w.heap.size,0,none⟩) 0 0) 0 [] E (abW w 5 1) w.heap.size (some a) n c (Jq l) E (h.alloc aB _) (Uf l) lQ Y iQ ?_;intro v1 w1 hown1 hg1 OB)
  go_ret
  simp only[Nat.zero_add,nil_append]at hown1;exact kS.of (((Below.refl _ w).alloc aB _).grown hg1 iQ (by simp[Value.ownBlock])) hown1
def dX(l:List UInt8)(s:Int):Bool:=decide (l.length<=100000)&&decide (0<=s)&&decide (s<=l.length)
def KA(l:List UInt8)(s:Int):List UInt8×Int×Bool:=if dX l s=true then(l,s,true)else([],0,false)
def GR(w:World)(r:List UInt8×Int×Bool)(e:Ending)(w':World):Prop:=
 ∃A c,e=.returned (.tuple #[.agg #[.slice A r.1.length c,.int .i64 r.2.1],.bool r.2.2])/\Below w.heap.size w w'/\w'.ownsRow w.heap.size 5 1 (.slice A r.1.length c) r.1.length (Jq r.1)
def GR.no(w:World){o:Obj}{o':Obj}(W:World)(hW:W=(w.alloc o).alloc o'):Below w.heap.size w W:=by
 subst hW
 go_grown
def aiQ(A:Option Addr)(n c:Nat)(l:List UInt8)(s:Int)(w:World)(h:Rd w w.heap.size 1 A n (Jq l))(h1:0<=s)(h2:s<=n)(h3:n<=100000):
 Calls prog 52 #[.agg #[.slice A n c,.int .i64 s]] w (GR w (l,s,true)):=by
 have HL:=Lib.hid h.qD;have H:=Lib.hid h;clear h
 go_enter func52,ntmps52
 go_wp2
 go_region_with (go_at_call 69;refine(ahl A n c l _ (by exact H.out.on gQ) hQ).mono ?_;rintro e w1 ⟨A1,c1,rfl,hb1,hown1⟩;obtain⟨hc1,hf1⟩:=EU hb1)
 all_goals (have hz1:=hb1.size;simp at hz1)
 all_goals go_wp2
 all_goals refine bodyPost_ret (v:=.tuple #[.agg #[.slice A1 n c1,.int .i64 s],.bool true]) (by simp[results,results52,go_sem,hc1]) E ?_
 all_goals (have hB:Below w.heap.size w w1:=Below.trans gQ (hb1.mono jQ))
 all_goals (obtain rfl:=HL.out)
 all_goals exact⟨A1,c1,E,by go_grown,(ownsRow_setCell_below (ownsRow_setCell_below (base:=w.heap.size+1+1) (hown1.lower iQ) iQ _) iQ _).lower Y⟩
def anc(A:Option Addr)(n c:Nat)(s:Int)(w:World)(PX:s<0\/(n:Int)<s\/100000<n):
 Calls prog 52 #[.agg #[.slice A n c,.int .i64 s]] w (GR w ([],0,false)):=by
 by_cases h1:s<0
 ·clear PX
  go_enter func52,ntmps52
  go_wp2
  refine bodyPost_ret (v:=.tuple #[.agg #[.slice none 0 0,.int .i64 0],.bool false]) (by simp[results,results52,go_sem]) E ?_;exact⟨none,0,E,by go_grown,kH _ _ _ _⟩
 by_cases h2:(n:Int)<s
 ·have h1':0<=s:=Y;clear PX h1
  go_enter func52,ntmps52
  go_wp2
  refine bodyPost_ret (v:=.tuple #[.agg #[.slice none 0 0,.int .i64 0],.bool false]) (by simp[results,results52,go_sem]) E ?_;exact⟨none,0,E,by go_grown,kH _ _ _ _⟩
 have h1':0<=s:=Y;have h2':s<=n:=Y;have h3:100000<n:=Y;clear PX h1 h2
 go_enter func52,ntmps52
 go_wp2
 refine bodyPost_ret (v:=.tuple #[.agg #[.slice none 0 0,.int .i64 0],.bool false]) (by simp[results,results52,go_sem]) E ?_;exact⟨none,0,E,by go_grown,kH _ _ _ _⟩
def Eb{l:List UInt8}{s:Int}(h1:0<=s)(h:s<=l.length)(I:l.length<=100000):KA l s=(l,s,true):=au (by simp[dX,h1,h,I])
def aiR{l:List UInt8}{s:Int}(h:s<0\/(l.length:Int)<s\/100000<l.length):KA l s=([],0,false):=ah (by simp[dX];omega)
def nW(A:Option Addr)(n c:Nat)(l:List UInt8)(s:Int)(w:World)(h:Rd w w.heap.size 1 A n (Jq l)):
 Calls prog 52 #[.agg #[.slice A n c,.int .i64 s]] w (GR w (KA l s)):=by
 have J:=h.qD;by_cases I:0<=s/\s<=n/\n<=100000
 ·rw[Eb I.1 Y Y];exact aiQ A n c l s w h I.1 I.2.1 I.2.2
 rw[aiR Y];exact anc A n c s w Y
structure Pl where
 node:Int
 ME:Int
 deriving DecidableEq
structure TW where
 p0:Pl
 p1:Pl
 p2:Pl
 p3:Pl
 deriving DecidableEq
def TW.cells(d:TW):List Value:=[.int .i64 d.p0.node,.int .i64 d.p0.ME,.int .i64 d.p1.node,.int .i64 d.p1.ME,.int .i64 d.p2.node,.int .i64 d.p2.ME,.int .i64 d.p3.node,.int .i64 d.p3.ME]
def TW.val(d:TW):Value:=.agg #[.int .i64 d.p0.node,.int .i64 d.p0.ME,.int .i64 d.p1.node,.int .i64 d.p1.ME,.int .i64 d.p2.node,.int .i64 d.p2.ME,.int .i64 d.p3.node,.int .i64 d.p3.ME]
def TW.at(d:TW):Nat->Pl
 | 0=>d.p0
 | 1=>d.p1
 | 2=>d.p2
 |_=>d.p3
def TW.set(d:TW)(k:Nat)(p:Pl):TW:=
 match k with
 | 0=>{d with p0:=p}
 | 1=>{d with p1:=p}
 | 2=>{d with p2:=p}
 |_=>{d with p3:=p}
def qg:Pl:=⟨0,0⟩
def nowhere:Pl:=⟨-1,0⟩
def mX:TW:=⟨qg,qg,qg,qg⟩
def zP(p:Pl):Prop:=(p.node= -1/\p.ME=0)\/(0<=p.node/\p.node<=4/\1<=p.ME/\p.ME<=1048576)
open Classical in
noncomputable def iI(d:TW):Int:=if ∀k,k<4->zP (d.at k)then 0 else 6
def ahr{d:TW}{k:Nat}(I:k<4)(h:¬zP (d.at k)):iI d=6:=ah (λJ=>h (J k I))
def yS{d:TW}(h:∀k,k<4->zP (d.at k)):iI d=0:=au h
def adb{d:TW}(h:iI d=0):∀k,k<4->zP (d.at k):=by
 unfold iI at h
 split at h
 ·assumption
 cases h
def ND(a b:Pl):fM [.int .i64 a.node,.int .i64 a.ME] [.int .i64 b.node,.int .i64 b.ME]=decide (a=b):=by
 have:=BL (xs:=[a.node,a.ME]) (ys:=[b.node,b.ME]) E;simp only[map_cons,map_nil]at this;rw[this,SB];obtain⟨a1,a2⟩:=a;obtain⟨b1,b2⟩:=b;simp
def ab3:flat prog 30 27=some (replicate 2 (.at_ (.int .i64))):=kQ
def ab4:GJ prog 30 27=true:=kQ
def ahn(xs:List Value):mkV prog 27 xs=.agg xs.toArray:=by
 unfold mkV;rw[underlying27]
def NH(a b:Pl)(w:World):(binOp .eql 27 (.agg #[.int .i64 a.node,.int .i64 a.ME]) (.agg #[.int .i64 b.node,.int .i64 b.ME])).run prog w=.ok (.bool (decide (a=b))) w:=by
 rw[<-ND];exact zi (P:=prog) w ab3 ab4 ahn (AA [a.node,a.ME]) (AA [b.node,b.ME])
def aaC(a b:Pl)(w:World):(binOp .neq 27 (.agg #[.int .i64 a.node,.int .i64 a.ME]) (.agg #[.int .i64 b.node,.int .i64 b.ME])).run prog w=.ok (.bool (!decide (a=b))) w:=by
 rw[<-ND];exact vE (P:=prog) w ab3 ab4 ahn (AA [a.node,a.ME]) (AA [b.node,b.ME])
def adX(n0 h n1 I J M O Z:Int)(w:World):(Instr.index 28 (.agg #[.int .i64 n0,.int .i64 h,.int .i64 n1,.int .i64 I,.int .i64 J,.int .i64 M,.int .i64 O,.int .i64 Z]) (.int .i64 0)).run prog w=.ok (.agg #[.int .i64 n0,.int .i64 h]) w:=kQ
def adY(n0 I n1 h J M O Z:Int)(w:World):(Instr.index 28 (.agg #[.int .i64 n0,.int .i64 I,.int .i64 n1,.int .i64 h,.int .i64 J,.int .i64 M,.int .i64 O,.int .i64 Z]) (.int .i64 1)).run prog w=.ok (.agg #[.int .i64 n1,.int .i64 h]) w:=kQ
def adZ(n0 J n1 M h I O Z:Int)(w:World):(Instr.index 28 (.agg #[.int .i64 n0,.int .i64 J,.int .i64 n1,.int .i64 M,.int .i64 h,.int .i64 I,.int .i64 O,.int .i64 Z]) (.int .i64 2)).run prog w=.ok (.agg #[.int .i64 h,.int .i64 I]) w:=kQ
def ad1(n0 J n1 M O Z h I:Int)(w:World):(Instr.index 28 (.agg #[.int .i64 n0,.int .i64 J,.int .i64 n1,.int .i64 M,.int .i64 O,.int .i64 Z,.int .i64 h,.int .i64 I]) (.int .i64 3)).run prog w=.ok (.agg #[.int .i64 h,.int .i64 I]) w:=kQ
def aiS(d:TW)(k:Nat)(I:k<4)(w:World):(Instr.index 28 (.agg #[.int .i64 d.p0.node,.int .i64 d.p0.ME,.int .i64 d.p1.node,.int .i64 d.p1.ME,.int .i64 d.p2.node,.int .i64 d.p2.ME,.int .i64 d.p3.node,.int .i64 d.p3.ME]) (.int .i64 k)).run prog w=.ok (.agg #[.int .i64 (d.at k).node,.int .i64 (d.at k).ME]) w:=by
 have h:k=0\/k=1\/k=2\/k=3:=Y
 rcases h with rfl|rfl|rfl|rfl
 ·exact adX _ _ _ _ _ _ _ _ w
 ·exact adY _ _ _ _ _ _ _ _ w
 ·exact adZ _ _ _ _ _ _ _ _ w
 exact ad1 _ _ _ _ _ _ _ _ w
structure Nw (w:World):Prop where
 c0:w.cell? ⟨0,0,none⟩=some (.int .i64 (-1))
 c1:w.cell? ⟨0,1,none⟩=some (.int .i64 0)
 lt:0<w.heap.size
def Nw.on{w w':World}(h:Nw w)(I:Below w.heap.size w w'):Nw w':=
 ⟨(I.cell (p:=⟨0,0,none⟩) h.lt).trans h.c0,(I.cell (p:=⟨0,1,none⟩) h.lt).trans h.c1,SS h.lt I.size⟩
def azO(w:World)(k:Int)(e:Ending)(w':World):Prop:=e=.returned (.int .i64 k)/\Below w.heap.size w w'
def aho(w:World)(r:Pl×Int)(e:Ending)(w':World):Prop:=e=.returned (.tuple #[.agg #[.int .i64 r.1.node,.int .i64 r.1.ME],.int .i64 r.2])/\Below w.heap.size w w'
def ab5(w:World)(r:TW×Int)(e:Ending)(w':World):Prop:=e=.returned (.tuple #[r.1.val,.int .i64 r.2])/\Below w.heap.size w w'
def ahs(d:TW)(w:World)(hn:Nw w):Calls prog 81 #[d.val] w (azO w (iI d)):=by
 have HN:=Lib.hid hn;have HI:=Lib.hid (aiS d);have HF:=Lib.hid (λk hk h=>ahr (d:=d) (k:=k) hk h);have H0:=Lib.hid (yS (d:=d));clear hn;generalize iI d=z at HF H0⊢;have hat:=Lib.hid (E:d.at=d.at);generalize d.at=f at HI HF H0 hat;clear hat;obtain⟨⟨n0,e0⟩,⟨n1,e1⟩,⟨n2,e2⟩,⟨n3,e3⟩⟩:=d;unfold TW.val;simp only at HI⊢
 go_enter func81,ntmps81
 go_wp2_with fail
 go_loopw [7] (λi wr=> ∃k:Nat,k<=4/\i=.int .i64 k/\(∀j,j<k->zP (f j))/\Below w.heap.size w wr) (λi _=>4-(intOf i).toNat)
 case atStart=>exact⟨0,by omega,E,λj hj=>av hj Y,by go_grown⟩
 case round=>
  obtain⟨k,hk,rfl,hall,hb⟩:=hrel;have hsz:w.heap.size<=wr.heap.size:=hb.size;have HB:=Lib.hid hb;have HA:=Lib.hid hall;by_cases hlt:k<4
  ·have hi:=HI.out k hlt;have HFk:=Lib.hid (HF.out k hlt);have HQ:Hid (zP (f k)-> ∀j,j<k+1->zP (f j)):=Lib.hid (λh j hj=>by
    by_cases e:j=k
    ·rw[e];exact h
    exact HA.out j Y)
   obtain⟨g0,g1,g2⟩:=HN.out.on hb;generalize f k=p at hi HFk HQ;have hq:=NH p nowhere;unfold nowhere at hq;simp only at hq;clear hall;by_cases hp:p=⟨-1,0⟩
   ·have HG:=Lib.hid (HQ.out (by rw[hp];exact .inl ⟨E,E⟩));have hd:decide (p=⟨-1,0⟩)=true:=by simpa using hp
    rw[hd]at hq;clear hp hd;obtain⟨pn,pe⟩:=p;simp only at hi hq
    go_wp2_with fail
    go_roundw
    case rel=>exact⟨k+1,by omega,by go_num,HG.out,by go_grown⟩
    case measure=>simp[intOf];omega
   have hd:decide (p=⟨-1,0⟩)=false:=by simpa using hp
   rw[hd]at hq;clear hd;obtain⟨pn,pe⟩:=p;simp only[Pl.mk.injEq]at hi hq hp;have HP:=Lib.hid hp;clear hp;by_cases b1:pn<0
   ·have hp:=HP.out;have e:=HFk.out (by unfold zP;simp only;omega);subst e
    go_wp2_with fail
    go_ret
    exact⟨E,by go_grown⟩
   by_cases b2:5<=pn
   ·have e:=HFk.out (by unfold zP;simp only;omega);subst e
    go_wp2_with fail
    go_ret
    exact⟨E,by go_grown⟩
   by_cases b3:pe<1
   ·have e:=HFk.out (by unfold zP;simp only;omega);subst e
    go_wp2_with fail
    go_ret
    exact⟨E,by go_grown⟩
   by_cases b4:1048576<pe
   ·have e:=HFk.out (by unfold zP;simp only;omega);subst e
    go_wp2_with fail
    go_ret
    exact⟨E,by go_grown⟩
   have HG:=Lib.hid (HQ.out (by unfold zP;simp only;omega))
   go_wp2_with fail
   go_roundw
   case rel=>exact⟨k+1,by omega,by go_num,HG.out,by go_grown⟩
   case measure=>simp[intOf];omega
  obtain rfl:k=4:=Y;have e:=H0.out HA.out;subst e;clear hall
  go_wp2_with fail
  go_ret
  exact⟨E,by go_grown⟩
end Go.Proofs.YtefabpdniidmbaaGreatDoor
