import Derived.Laws.BitsAllLaws
import Derived.Shelf.SlSortCmp.WholeK
import Derived.Shelf.SlSortCmp.NoneTotal
import Derived.Maps.OwnSet
import Derived.Lib.SliceRun
import Derived.Deep.RegionLaw
import Derived.Recover
import Derived.Defers
import Derived.Test.YtefabpdniidmbaaGreatDoorGd9c2c
set_option linter.all false
set_option maxRecDepth 100000
set_option maxHeartbeats 8000000
namespace Go.Proofs.YtefabpdniidmbaaGreatDoor
open List Nat Go.Proofs.Tryz ChangeShapes WideShapes RowKit
def tU1{Aa:Type}{a:Aa}:a=a/\True:=⟨E,trivial⟩
def xR{Aa Ab:Type}{a:Aa}{b:Ab}:a=a/\b=b/\True:=⟨E,E,trivial⟩
def FH{Aa Ab Ac:Type}{a:Aa}{b:Ab}{c:Ac}:a=a/\b=b/\c=c/\True:=⟨E,E,E,trivial⟩
def jX{Aa Ab Ac Ad:Type}{a:Aa}{b:Ab}{c:Ac}{d:Ad}:a=a/\b=b/\c=c/\d=d/\True:=⟨E,E,E,E,trivial⟩
def Av{Aa Ab Ac Ad Ae:Type}{a:Aa}{b:Ab}{c:Ac}{d:Ad}{e:Ae}:a=a/\b=b/\c=c/\d=d/\e=e/\True:=⟨E,E,E,E,E,trivial⟩
def rU{Aa Ab Ac Ad Ae Af:Type}{a:Aa}{b:Ab}{c:Ac}{d:Ad}{e:Ae}{f:Af}:a=a/\b=b/\c=c/\d=d/\e=e/\f=f/\True:=⟨E,E,E,E,E,E,trivial⟩
def uj{Aa Ab Ac Ad Ae Af Ag:Type}{a:Aa}{b:Ab}{c:Ac}{d:Ad}{e:Ae}{f:Af}{g:Ag}:a=a/\b=b/\c=c/\d=d/\e=e/\f=f/\g=g/\True:=⟨E,E,E,E,E,E,E,trivial⟩
def VP{Aa Ab Ac Ad Ae Af Ag Ah:Type}{a:Aa}{b:Ab}{c:Ac}{d:Ad}{e:Ae}{f:Af}{g:Ag}{h:Ah}:a=a/\b=b/\c=c/\d=d/\e=e/\f=f/\g=g/\h=h/\True:=⟨E,E,E,E,E,E,E,E,trivial⟩
def tU9{Aa Ab Ac Ad Ae Af Ag Ah Ai:Type}{a:Aa}{b:Ab}{c:Ac}{d:Ad}{e:Ae}{f:Af}{g:Ag}{h:Ah}{i:Ai}:a=a/\b=b/\c=c/\d=d/\e=e/\f=f/\g=g/\h=h/\i=i/\True:=⟨E,E,E,E,E,E,E,E,E,trivial⟩
def asC{Aa Ab Ac Ad Ae Af Ag Ah Ai Aj:Type}{a:Aa}{b:Ab}{c:Ac}{d:Ad}{e:Ae}{f:Af}{g:Ag}{h:Ah}{i:Ai}{j:Aj}:a=a/\b=b/\c=c/\d=d/\e=e/\f=f/\g=g/\h=h/\i=i/\j=j/\True:=⟨E,E,E,E,E,E,E,E,E,E,trivial⟩
def aY(l:List Ev):List Value:=l.flatMap Ev.cells
def aaH(l:List Ev):(aY l).length=l.length*6:=by
 induction l with
 |nil=>rfl
 |cons e l h=>simp only[aY,flatMap_cons,length_append]at*;rw[h];simp[Ev.cells];omega
def fP(l:List Ev):∀u∈aY l,u.oneCell'=true:=by
 intro u h;simp only[aY,mem_flatMap,Ev.cells]at h;obtain⟨e,_,h⟩:=h;simp only[mem_cons,not_mem_nil,or_false]at h
 rcases h with rfl|rfl|rfl|rfl|rfl|rfl<;>rfl
def Rd.aeu{w:World}{B n:Nat}{A:Option Addr}{l:List Ev}(h:Rd w B 6 A n (aY l)):l.length=n:=by
 have:=h.1;rw[aaH]at this;omega
def K7(a b:Nat)(h:a<4611686018427387904)(I:b<4611686018427387904):bits .or .i64 (a:Int) (b:Int)=((a ||| b:Nat):Int):=by
 have J:a ||| b<2 ^ 62:=or_lt_two_pow Y Y
 show IntKind.i64.wrap ((BitVec.ofInt 64 (a:Int) ||| BitVec.ofInt 64 (b:Int)).toNat:Int)=_
 rw[BitVec.toNat_or,ofInt_u64 a Y,ofInt_u64 b Y,IntKind.wrap_i64];omega
def aew(v x i:Nat)(h:x<2 ^ i):(v*2 ^ i) ||| x=v*2 ^ i+x:=by
 rw[<-shiftLeft_eq,shiftLeft_add_eq_or_of_lt h]
def or8(v x:Int)(I:0<=v)(h1:v<=1099511627776)(J:0<=x)(M:x<=255):bits .or .i64 (v*256) x=v*256+x:=by
 obtain⟨a,rfl⟩:=Int.eq_ofNat_of_zero_le I;obtain⟨b,rfl⟩:=Int.eq_ofNat_of_zero_le J;have e:((a:Int)*256)=((a*256:Nat):Int):=Y;have h:=aew a b 8 Y;rw[e,K7 _ _ Y Y];simp only[reducePow]at h;rw[h];omega
def azo(v x:Int)(I:0<=v)(h1:v<=1099511627776)(J:0<=x)(M:x<=65535):bits .or .i64 (v*65536) x=v*65536+x:=by
 obtain⟨a,rfl⟩:=Int.eq_ofNat_of_zero_le I;obtain⟨b,rfl⟩:=Int.eq_ofNat_of_zero_le J;have e:((a:Int)*65536)=((a*65536:Nat):Int):=Y;have h:=aew a b 16 Y;rw[e,K7 _ _ Y Y];simp only[reducePow]at h;rw[h];omega
def azp(x:Int)(h:0<=x)(I:x<=255):bits .or .i64 0 x=x:=by
 have:=or8 0 x Y Y h I;simpa using this
section
open ChangeAt
def jy{l:Nj}{x:Operand}{v:Value}(h:ev l x=some v):EvO l (some x) (some v):=h
def nZ{l:Nj}:EvO l none none:=trivial
def apr{kd:IntKind}{a b:Int}(h:a=b):some (Value.int kd a)=some (Value.int kd b):=by rw[h]
section
variable {P:Program}{w:World}{t e:TypeId}{A:Option Addr}{n c s B:Nat}{xs:List Value}{kd ke kf:IntKind}
def qo{i:Int}(k y:Nat)(code:BoundsCode)(h:i=k)(I:k<=y)(w:World):(Instr.sliceBound (.int kd i) y code).run P w=.ok k w:=by
 subst h;have h1:(0:Int)<=k/\(k:Int)<=y:=Y;simp[Instr.sliceBound,asIntOf,Sem.run_bind,Result.andThen,h1,I]
def ah5{i:Int}(l:Nat)(hi:i=l)(h:l<=n)(w:World):(Instr.sliceBounds true n c (some (.int kd i)) none none).run P w=.ok (l,n,c) w:=by
 simp[Instr.sliceBounds,Sem.run_bind,Result.andThen,qo l n _ hi h]
def azq{i:Int}(k:Nat)(hi:i=k)(h:k<=c)(w:World):(Instr.sliceBounds true n c none (some (.int kd i)) none).run P w=.ok (0,k,c) w:=by
 simp[Instr.sliceBounds,Sem.run_bind,Result.andThen,qo k c _ hi h]
def WU{i j:Int}(l k:Nat)(hi:i=l)(J:j=k)(I:l<=k)(h:k<=c)(w:World):(Instr.sliceBounds true n c (some (.int kd i)) (some (.int ke j)) none).run P w=.ok (l,k,c) w:=by
 simp[Instr.sliceBounds,Sem.run_bind,Result.andThen,qo k c _ J h,qo l k _ hi I]
def amn{j m:Int}(k q:Nat)(J:j=k)(M:m=q)(I:k<=q)(h:q<=c)(w:World):(Instr.sliceBounds true n c none (some (.int ke j)) (some (.int kf m))).run P w=.ok (0,k,q) w:=by
 simp[Instr.sliceBounds,Sem.run_bind,Result.andThen,qo q c _ M h,qo k q _ J I]
def aex{i j m:Int}(l k q:Nat)(hi:i=l)(M:j=k)(O:m=q)(I:l<=k)(J:k<=q)(h:q<=c)(w:World):(Instr.sliceBounds true n c (some (.int kd i)) (some (.int ke j)) (some (.int kf m))).run P w=.ok (l,k,q) w:=by
 simp[Instr.sliceBounds,Sem.run_bind,Result.andThen,qo q c _ O h,qo k q _ M J,qo l k _ hi I]
def add_block(a:Addr)(k:Nat):a.block=(a.add k).block:=by
 unfold Addr.add
 split<;>rfl
def BP{lo hi mx:Option Value}{l k q:Nat}(J:P.underlying t=some (.slice e))(Z:(P.info? e).map (·.size)=some s)(O:∀w,(Instr.sliceBounds true n c lo hi mx).run P w=.ok (l,k,q) w)(hlk:l<=k)(hkn:k<=n)(hkq:k<=q):
 ∃A',(∀w,(Instr.sliceAt t (.slice A n c) lo hi mx).run P w=.ok (.slice A' (k-l) (q-l)) w)/\(∀(w:World) (B:Nat) (xs:List Value),Rd w B s A n xs->Rd w B s A' (k-l) ((xs.drop (l*s)).take ((k-l)*s)))/\ ∀M,A'=some M-> ∃a,A=some a/\a.block=M.block:=by
 obtain⟨z,hq,hs⟩:∃z,P.info? e=some z/\z.size=s:=by
  cases h:P.info? e with
  |none=>simp[h]at Z
  |some z=>exact⟨z,E,by simpa[h]using Z⟩
 refine⟨if q=l then A else A.map (·.add (l*s)),λw=>?_,?_,?_⟩
 ·have h1:(sizeOf e).run P w=.ok s w:=by simp[sizeOf,typeInfo,hq,hs,Sem.run_bind,Result.andThen]
  simp[Instr.sliceAt,Instr.slice,run_underlying J,Sem.run_bind,Result.andThen,O,h1]
 ·intro w B xs hR;refine⟨?_,λhn=>?_⟩
  ·rw[length_take,length_drop,hR.1,<-Nat.sub_mul];exact Nat.min_eq_left (mul_le_mul_right _ Y)
  obtain⟨b,off,rfl,O,I⟩:=hR.2 Y;rw[if_neg Y];refine⟨b,off+l*s,?_,O,λj u J=>?_⟩
  ·simp only[Option.map_some,Option.some.injEq];rw[Go.WideShapes.add_plain]
  rw[Nat.add_assoc];refine I _ u ?_;have hj:j< (k-l)*s:=by
   have:=(List.getElem?_eq_some_iff.1 J).1;rw[length_take]at this;omega
  rw[getElem?_take_of_lt hj,getElem?_drop]at J;exact J
 intro M h
 split at h
 ·exact⟨M,h,E⟩
 cases A with
 |none=>cases h
 |some a=>cases h;exact⟨a,E,add_block a _⟩
def aaX{lo hi mx:Option Value}{l k q:Nat}(O:P.underlying t=some (.slice e))(Z:(P.info? e).map (·.size)=some s)(hb:∀w,(Instr.sliceBounds true n c lo hi mx).run P w=.ok (l,k,q) w)(hR:Rd w B s A n xs)(h:l<=k)(I:k<=n)(J:k<=q):
 ∃A',(∀w,(Instr.sliceAt t (.slice A n c) lo hi mx).run P w=.ok (.slice A' (k-l) (q-l)) w)/\Rd w B s A' (k-l) ((xs.drop (l*s)).take ((k-l)*s))/\ ∀M,A'=some M-> ∃a,A=some a/\a.block=M.block:=by
 obtain⟨A',h1,h2,h3⟩:=BP (A:=A) O Z hb h I J;exact⟨A',h1,h2 _ _ _ hR,h3⟩
def afU{lo hi mx:Option Value}{l k q:Nat}(M:P.underlying t=some (.slice e))(O:(P.info? e).map (·.size)=some s)(Z:∀w,(Instr.sliceBounds true n c lo hi mx).run P w=.ok (l,k,q) w)(hR:Rd w B s A n xs)(h:l<=k)(I:k<=n)(J:k<=q):
 ∃A',(∀w,(Instr.sliceAt t (.slice A n c) lo hi mx).run P w=.ok (.slice A' (k-l) (q-l)) w)/\Rd w B s A' (k-l) ((xs.drop (l*s)).take ((k-l)*s)):=by
 obtain⟨A',h1,h2,_⟩:=aaX M O Z hR h I J;exact⟨A',h1,h2⟩
def amo{x y:Int}{ts:Array TypeId}{ty:TypeId}{cs:Array Bool}:(builtin .min ts ty cs #[.int kd x,.int kd y]).run P w=.ok (.value (.int kd (min x y))) w:=by
 have:(if y<x then y else x)=min x y:=by split<;>omega
 simp[builtin,run_min_int2,Sem.run_bind,Result.andThen,this]
def JF{x y:Nat}{ts:Array TypeId}{ty:TypeId}{cs:Array Bool}:(builtin .min ts ty cs #[.int kd x,.int kd y]).run P w=.ok (.value (.int kd ((min x y:Nat):Int))) w:=by
 rw[amo,show min (x:Int) (y:Int)=((min x y:Nat):Int) by omega]
def C9{op:BinOp}{xo yo:Operand}{a b:Array Value}{v:Value}(I:P.eqGuardType P.depth t=false)(h:(binOp op t (.agg a) (.agg b)).run P w=.ok v w):(do eqGuard op t xo yo (.agg a) (.agg b);binOp op t (.agg a) (.agg b):Sem Value).run P w=.ok v w:=by
 have h1:(eqGuard op t xo yo (.agg a) (.agg b)).run P w=.ok () w:=by
  have J:∀w,(program:Sem Program).run P w=.ok P w:=λ_=>E;unfold eqGuard
  cases op<;>first|rfl|simp[J,Sem.run_bind,Result.andThen,I]
 rw[Sem.run_bind,h1];exact h
def aaY{s t:TypeId}{k:IntKind}{x:Int}(hs:(P.underlying s).isSome=true)(h:P.underlying t=some (.int k)){z:Int}(I:k.wrap x=z):(convert s t (.int kd x)).run P w=.ok (.int k z) w:=by
 obtain⟨ds,hs⟩:=Option.isSome_iff_exists.1 hs;subst I;simp[convert,Sem.run_bind,run_underlying hs,run_underlying h,Result.andThen,Conv.intToInt]
def Q6(a:UInt8):0<=(a.toNat:Int)/\(a.toNat:Int)<=255:=by
 have:=a.toNat_lt;omega
def PV{s t:TypeId}{a:UInt8}(hs:P.underlying s=some (.int .u8))(h:P.underlying t=some (.int .i64)):(convert s t (.int .u8 (a.toNat:Int))).run P w=.ok (D (a.toNat:Int)) w:=
 aaY (by rw[hs];rfl) h (Rs (by have:=Q6 a;omega) (by have:=Q6 a;omega))
def aey{xo yo:Operand}{x z:Int}(h:x*256=z)(I:0<=x)(h1:x<=1099511627776):(do eqGuard .shl t xo yo (D x) (.int .u64 8);binOp .shl t (D x) (.int .u64 8):Sem Value).run P w=.ok (D z) w:=by
 subst h;have:IntKind.i64.wrap (x*256)=x*256:=Rs Y Y;simp[binOp,eqGuard_shl,shift_shl_i64,this]
def avJ{xo yo:Operand}{v x z:Int}(h:v*256+x=z)(I:0<=v)(h1:v<=1099511627776)(J:0<=x)(M:x<=255):(do eqGuard .or t xo yo (D (v*256)) (D x);binOp .or t (D (v*256)) (D x):Sem Value).run P w=.ok (D z) w:=by
 subst h;have:=or8 v x I h1 J M;simp[binOp,eqGuard_or,intBits_or,this]
def NR{b:List UInt8}{lo hi mx:Option Value}{l k q m c':Nat}(O:P.underlying t=some (.slice e))(Z:(P.info? e).map (·.size)=some 1)(hb:∀w,(Instr.sliceBounds true b.length c lo hi mx).run P w=.ok (l,k,q) w)(hR:Rd w B 1 A b.length (Gt b))
  (h:l<=k) (I:k<=b.length) (J:k<=q) (hm:k-l=m) (hc:q-l=c'):∃A',(∀w,(Instr.sliceAt t (.slice A b.length c) lo hi mx).run P w=.ok (.slice A' m c') w)/\Rd w B 1 A' m (Gt ((b.drop l).take m)):=by
 subst hm;subst hc;obtain⟨A',h1,M⟩:=afU O Z hb hR h I J;refine⟨A',h1,?_⟩;rw[Nat.mul_one,Nat.mul_one]at M;simpa[Gt,map_drop,map_take]using M
def ajE{b:List UInt8}{lo hi mx:Option Value}{l k q m c':Nat}(Z:P.underlying t=some (.slice e))(hz:(P.info? e).map (·.size)=some 1)(hb:∀w,(Instr.sliceBounds true b.length c lo hi mx).run P w=.ok (l,k,q) w)
  (I:l<=k) (J:k<=b.length) (M:k<=q) (hm:k-l=m) (hc:q-l=c'):∃A',(∀w,(Instr.sliceAt t (.slice A b.length c) lo hi mx).run P w=.ok (.slice A' m c') w)/\(∀(w:World) (B:Nat),Rd w B 1 A b.length (Gt b)->Rd w B 1 A' m (Gt ((b.drop l).take m)))/\ ∀O,A'=some O-> ∃a,A=some a/\a.block=O.block:=by
 subst hm;subst hc;obtain⟨A',h1,h,h3⟩:=BP (A:=A) Z hz hb I J M;refine⟨A',h1,λw B hR=>?_,h3⟩
 replace h:=h w B _ hR
 rw[Nat.mul_one,Nat.mul_one]at h;simpa[Gt,map_drop,map_take]using h
end
end
abbrev fA (s f k:Nat):Prop:= ∀(b o:Nat) (w:World),(Instr.fieldAt s (.pointer (some ⟨b,o,none⟩)) f).run tP w=.ok (.pointer (some ⟨b,o+k,none⟩)) w
abbrev iF (t k:Nat):Prop:=(tP.info? t).map (·.size)=some k
abbrev iZ (t:Nat)(z:Value)(s b:Nat):Prop:=(tP.info? t).map (λi=>(i.zero,i.size,i.bytes))=some (some z,s,b)
abbrev eN (f:FuncId):Prop:= ∀(args:Array Value) (w:World),(callFunc f args).run tP w=.ok (.enter f args) w
def asD:iF 3 1:=kQ
def anK:iF 4 1:=kQ
def azr:iF 5 1:=kQ
def avK:iF 22 1:=kQ
def avL:iF 23 1:=kQ
def avM:iF 24 1:=kQ
def avN:iF 26 2:=kQ
def aps:fA 26 0 0:=fQ
def apt:fA 26 1 1:=fQ
def MI:iF 27 2:=kQ
def apu:fA 27 0 0:=fQ
def apv:fA 27 1 1:=fQ
def avO:iF 30 8:=kQ
def avP:iF 31 1:=kQ
def avQ:iF 32 1:=kQ
def avR:iF 33 1:=kQ
def avS:iF 34 18:=kQ
def apw:fA 34 0 0:=fQ
def apx:fA 34 1 1:=fQ
def apy:fA 34 2 6:=fQ
def apz:fA 34 3 14:=fQ
def apA:fA 34 4 15:=fQ
def avT:iF 35 18:=kQ
def apB:fA 35 0 0:=fQ
def apC:fA 35 1 1:=fQ
def apD:fA 35 2 6:=fQ
def apE:fA 35 3 14:=fQ
def apF:fA 35 4 15:=fQ
def apG:fA 35 5 16:=fQ
def apH:fA 35 6 17:=fQ
def avU:iF 75 1:=kQ
def amq:iF 40 1:=kQ
def xB:iF 42 6:=kQ
def apI:iZ 42 (.agg #[D 0,D 0,D 0,D 0,D 0,.slice none 0 0]) 6 64:=kQ
def NS:fA 42 0 0:=fQ
def apJ:fA 42 1 1:=fQ
def apK:fA 42 2 2:=fQ
def apL:fA 42 3 3:=fQ
def apM:fA 42 4 4:=fQ
def aez:fA 42 5 5:=fQ
def avV:iF 43 1:=kQ
def aeA:iZ 43 (.slice none 0 0) 1 24:=kQ
def avW:iF 176 1:=kQ
def avX:iF 177 1:=kQ
def amr:iF 180 9:=kQ
def avY:iF 181 36:=kQ
def avZ:iF 183 41:=kQ
def apN:fA 183 0 0:=fQ
def apO:fA 183 1 1:=fQ
def apP:fA 183 2 2:=fQ
def apQ:fA 183 3 3:=fQ
def apR:fA 183 4 4:=fQ
def apS:fA 183 5 5:=fQ
def av0:iF 47 2:=kQ
def apT:fA 47 0 0:=fQ
def apU:fA 47 1 1:=fQ
def Bo:iF 49 6:=kQ
def qJ:iZ 49 (.agg #[D 0,D 0,D 0,D 0,D 0,D 0]) 6 48:=kQ
def apV:fA 49 0 0:=fQ
def apW:fA 49 1 1:=fQ
def apX:fA 49 2 2:=fQ
def apY:fA 49 3 3:=fQ
def apZ:fA 49 4 4:=fQ
def uI:iF 51 11:=kQ
def JG:iZ 51 (.agg #[D 0,D 0,D 0,D 0,D 0,D 0,D 0,D 0,D 0,D 0,D 0]) 11 88:=kQ
def ap0:fA 51 0 0:=fQ
def ap1:fA 51 1 1:=fQ
def ap2:fA 51 2 2:=fQ
def ap3:fA 51 3 3:=fQ
def ap4:fA 51 4 4:=fQ
def ap5:fA 51 5 5:=fQ
def av1:iF 54 4:=kQ
def ap6:iZ 54 (.agg #[D 0,D 0,D 0,D 0]) 4 32:=kQ
def av2:iF 55 7:=kQ
def ap7:fA 55 0 0:=fQ
def ap8:fA 55 1 1:=fQ
def av3:iF 56 7:=kQ
def ap9:iZ 56 (.agg #[D 0,D 0,D 0,D 0,D 0,D 0,D 0]) 7 56:=kQ
def aqa:fA 56 2 5:=fQ
def aqb:iZ 164 (.agg #[D 0,D 0,D 0,D 0,D 0,D 0,D 0,D 0,D 0,D 0,D 0,D 0,D 0,D 0]) 14 112:=kQ
def ams:iF 222 2:=kQ
def VQ:iZ 222 (.agg #[D 0,D 0]) 2 16:=kQ
def aqc:fA 222 0 0:=fQ
def aqd:fA 222 1 1:=fQ
def av4:iF 225 4:=kQ
def aeB:iZ 225 (.agg #[D 0,D 0,D 0,D 0]) 4 32:=kQ
def aqe:fA 225 0 0:=fQ
def aqf:fA 225 1 2:=fQ
def aqg:iF 71 5:=kQ
def ajF:fA 71 0 0:=fQ
def ajG:fA 71 1 1:=fQ
def ajH:fA 71 2 2:=fQ
def ajI:fA 71 3 3:=fQ
def ajJ:fA 71 4 4:=fQ
def aqh:iF 72 5:=kQ
def Zl:fA 72 0 0:=fQ
def PX:fA 72 1 1:=fQ
def Zm:fA 72 2 2:=fQ
def Bp:fA 72 3 3:=fQ
def PY:fA 72 4 4:=fQ
def aqi:iF 90 1:=kQ
def aqj:iF 91 1:=kQ
def VR:iF 93 2:=kQ
def ajK:fA 93 0 0:=fQ
def ajL:fA 93 1 1:=fQ
def aqk:iF 94 8:=kQ
def ajM:fA 97 0 0:=fQ
def ajN:fA 97 1 1:=fQ
def ajO:fA 97 2 9:=fQ
def ajP:fA 97 3 10:=fQ
def ajQ:fA 97 4 50:=fQ
def aql:iF 98 1:=kQ
def Eh:iZ 98 (.pointer none) 1 8:=kQ
def aqm:iF 101 2:=kQ
def Zn:fA 101 0 0:=fQ
def ajR:fA 101 1 1:=fQ
def aqn:iF 102 4:=kQ
def aqo:iF 103 1:=kQ
def aqp:iF 105 20:=kQ
def ajS:fA 105 0 0:=fQ
def ajT:fA 105 1 1:=fQ
def ajU:fA 105 2 2:=fQ
def ajV:fA 105 3 4:=fQ
def ajW:fA 105 4 5:=fQ
def ajX:fA 105 5 13:=fQ
def ajY:fA 105 6 17:=fQ
def ajZ:fA 105 7 18:=fQ
def aj0:fA 105 8 19:=fQ
def aqr:iF 160 1:=kQ
def aqs:iF 199 42:=kQ
def aj1:fA 199 0 0:=fQ
def aj2:fA 199 1 41:=fQ
def aqt:iF 218 41:=kQ
def aj3:fA 218 0 0:=fQ
def aj4:fA 219 0 0:=fQ
def aqu:iF 85 4:=kQ
def Zo:fA 85 0 0:=fQ
def Bq:fA 85 1 1:=fQ
def Bt:fA 85 2 2:=fQ
def IU:fA 85 3 3:=fQ
def aqv:iF 112 1:=kQ
def aqw:iF 114 2:=kQ
def aj5:fA 114 0 0:=fQ
def aj6:fA 114 1 1:=fQ
def aqx:iF 119 23:=kQ
def Zp:iZ 119 (.agg #[D 0,D 0,D 0,D 0,D 0,D 0,D 0,D 0,D 0,D 0,D 0,D 0,D 0,.slice none 0 0,.bool false,D 0,D 0,D 0,D 0,D 0,D 0,D 0,D 0]) 23 200:=kQ
def aj7:fA 119 0 0:=fQ
def aj8:fA 119 1 1:=fQ
def aj9:fA 119 2 2:=fQ
def akb:fA 119 3 3:=fQ
def akc:fA 119 4 4:=fQ
def akd:fA 119 5 5:=fQ
def ake:fA 119 6 6:=fQ
def akf:fA 119 7 7:=fQ
def akh:fA 119 8 13:=fQ
def aki:fA 119 9 14:=fQ
def afV:fA 119 10 15:=fQ
def afW:fA 119 11 16:=fQ
def aqy:iF 138 10:=kQ
def PZ:iZ 138 (.agg #[D 0,D 0,D 0,D 0,D 0,D 0,D 0,D 0,D 0,D 0]) 10 80:=kQ
def akj:fA 138 0 0:=fQ
def akk:fA 138 1 1:=fQ
def akl:fA 138 2 2:=fQ
def akm:fA 138 3 3:=fQ
def akn:fA 138 4 4:=fQ
def aqz:iF 190 1:=kQ
def R6:eN 11:=eQ
def BQ:eN 17:=eQ
def azs:eN 22:=eQ
def mixed:tP.follows .mixedOrders=true:=kQ
def av5:List Sh:=[.at_ (.int .i64),.at_ .bool,.at_ .bool,.at_ .bool,.at_ .bool,.at_ .bool,.at_ .bool,.at_ .bool,.at_ .bool]
def lq.kd(a:lq):dZ Kd a.cells av5:=⟨⟨_,E⟩,⟨_,E⟩,⟨_,E⟩,⟨_,E⟩,⟨_,E⟩,⟨_,E⟩,⟨_,E⟩,⟨_,E⟩,⟨_,E⟩,trivial⟩
section
open ChangeAt
section
variable {P:Program}{N:Nat}{l:Nj}{o:Oper}{w w' w0:World}{B:Nat}{fs:List J8}
def Zq{f:FuncId}{first cap us:List Value}{x:Operand}{xs:List Operand}{ts:Array TypeId}{vs:List Value}(I:o.op=.call {callee:=.value x,args:=xs.toArray,argTypes:=ts})(hv:ev l x=some (.func (.func f) first.toArray cap.toArray))
  (h:∀args w,(callFunc f args).run P w=.ok (.enter f args) w) (J:QB l xs vs) (M:first++vs++cap=us):Enter P N l o w f us:=λa F=>by
 subst M;have h1:=F.Gs J;unfold execOp;simp only[I,resolve,F.ev hv,Deferred.ofValue,invoke,Sem.run_bind,Sem.run_pure,Result.andThen_ok,map_toArray,h1];simp[h]
def K8{f:Fn}{xs ys:List Operand}{vs us:List Value}(h:o.op=.makeFunc f xs.toArray ys.toArray)(I:QB l xs vs)(J:QB l ys us):jr P N l o w (.func f vs.toArray us.toArray):=λa F=>by
 have h1:=F.Gs I;have M:=F.Gs J;unfold execOp;simp only[h,map_toArray,h1,M];rfl
def aeC{b off s n:Nat}{row:Array Value}{t:TypeId}{xs:List Value}(i:Nat)(S:St B w0 w fs)(hi:fs[i]? =some (.Mg b row t))(h:xs.length=n*s)(I:∀(j:Nat) (u:Value),xs[j]? =some u->row[off+j]? =some u):Rd w w.heap.size s (some ⟨b,off,none⟩) n xs:=
 ⟨h,λ_=>⟨b,off,E,S.lt i hi,λj u J=>S.cl i hi (I j u J)⟩⟩
def EJ{base:Nat}{e:TypeId}{size n c:Nat}{A:Option Addr}{xs:List Value}(h:w.ownsRow base e size (.slice A n c) n xs)(hn:0<n):∃g,A=some ⟨g,0,none⟩:=by
 rcases h.2 with⟨_,J⟩|⟨g,cap,I,hv,_⟩
 ·omega
 exact⟨g,by injection hv⟩
def St.ad5{e M:TypeId}{s O:Nat}{g n c h c':Nat}{xs xs':List Value}(i:Nat)(S:St B w0 w fs)(hi:fs[i]? =some (.own e s (.slice (some ⟨g,0,none⟩) n c) n xs))(I:uF w g w')(Z:w'.ownsRow B M O (.slice (some ⟨g,0,none⟩) h c') h xs'):
 St B w0 w' (fs.set i (.own M O (.slice (some ⟨g,0,none⟩) h c') h xs')):=
 S.turn i hi (I.next S.Nr (J8.nu (S.all i _ hi) E).1) (Nat.le_of_eq I.size.symm) (λk _ J=>I.block k (λe=>J (by rw[e];rfl))) Z (λk J=>.inl J)
def Kj{α:Type}{enc:α->List Value}{sz:Nat}(h:∀x,(enc x).length=sz):∀(k:Nat) (l:List α),(l.flatMap enc).take (k*sz)++(l.flatMap enc).drop ((k+1)*sz)=(l.eraseIdx k).flatMap enc
 | 0,[]=>by simp
 | 0,x::l=>by rw[flatMap_cons,Nat.zero_mul,take_zero,nil_append,Nat.zero_add,Nat.one_mul,drop_left' (h x)];rfl
 |k+1,[]=>by simp
 |k+1,x::l=>by
  rw[eraseIdx_cons_succ,flatMap_cons,flatMap_cons,<-Kj h k l,succ_mul k,succ_mul (k+1),Nat.add_comm _ sz,Nat.add_comm _ sz,take_append,drop_append,h x];rw[take_of_length_le (by rw[h x];omega),drop_of_length_le (by rw[h x];omega),Nat.add_sub_cancel_left,Nat.add_sub_cancel_left,nil_append,append_assoc,succ_mul k,Nat.add_comm sz]
end
def aA{B:Nat}{w0 w:World}{fs:List J8}{s:Nat}(S:St B w0 w fs):St B w0 w (.cZ s none 0 []::fs):=S.cons ⟨Rd.Q8,λa h=>by cases h⟩ λk I=>by cases I
open Go.Sort (flatK HoldsK get_flatK size_flatK)
section
variable {α:Type}[Inhabited α]{enc:α->List Value}{k:Nat}
def Zr(M:∀x,(enc x).length=k)(d:Array α){t:Nat}(h:t<d.size*k):(d.toList.flatMap enc)[t]? =some ((flatK enc k d)[t]!):=by
 have I:0<k:=by
  rcases eq_zero_or_pos k with J|J
  ·subst J;omega
  exact J
 have h1:t / k<d.size:=Nat.div_lt_of_lt_mul (by rw[Nat.mul_comm];exact h);have Z:t % k<k:=mod_lt _ I;rw[get_flatK enc k d t h];have h3:d.toList[t / k]? =some d[t / k]! :=by rw[getElem!_pos d (t / k) h1];simp[h1]
 have h4:(enc d[t / k]!)[t % k]? =some (enc d[t / k]!)[t % k]! :=by
  have:t % k< (enc d[t / k]!).length:=by rw[M];exact Z
  rw[getElem!_pos (enc d[t / k]!) (t % k) this];exact getElem?_eq_getElem this
 have O:=bE M h3 h4;rw[Nat.mul_comm,div_add_mod]at O;exact O
def aaZ{w:World}{B g n c e:Nat}{l:List α}(Z:∀x,(enc x).length=k)(ho:w.ownsRow B e k (.slice (some ⟨g,0,none⟩) n c) n (l.flatMap enc))(hl:l.length=n):HoldsK enc k w g 0 l.toArray:=by
 obtain⟨h1,I⟩:=ho;intro j h;rw[size_flatK]at h
 rcases I with⟨I,_⟩|⟨g',cap,cur,hv,hb,M,hnc,hcm,hsz,J⟩
 ·cases I
 injection hv with hv1
 injection hv1 with hv1
 injection hv1 with hv1
 subst hv1;have O:=Zr Z l.toArray h;rw[show l.toArray.toList=l by simp,<-J,getElem?_take_of_lt (by simp at h;rw[hl]at h;exact h)]at O;refine⟨?_,by simp[World.frozen?,M]⟩;simp only[Nat.zero_add,World.cell?,M];simpa using O
def X7{w:World}{B g n c e m:Nat}{l:List α}{d':Array α}{os:Array Obj}(hk:∀x,(enc x).length=k)(ho:w.ownsRow B e k (.slice (some ⟨g,0,none⟩) n c) n (l.flatMap enc))(hd:d'.size=n):
 (sortWorldK enc k w g 0 m d' os).ownsRow B e k (.slice (some ⟨g,0,none⟩) n c) n (d'.toList.flatMap enc)/\w.grownBy (sortWorldK enc k w g 0 m d' os) (some g):=by
 obtain⟨h1,h2⟩:=ho
 rcases h2 with⟨h2,_⟩|⟨g',cap,J,hv,hb,hh,M,hcm,O,htk⟩
 ·cases h2
 have e1:g=g':=by injection hv with hv1;injection hv1 with hv1;injection hv1
 subst e1;have e2:c=cap:=by injection hv
 subst e2;have hg:g<w.heap.size:=(Array.getElem?_eq_some_iff.1 hh).1;have hW:(sortWorldK enc k w g 0 m d' os).heap=(w.heap.modify g (Sort.onCells (Sort.putCells id 0 (flatK enc k d'))))++os:=rfl;have I:(d'.toList.flatMap enc).length=n*k:=by rw[iL hk,Array.length_toList,hd]
 refine⟨⟨I,.inr ⟨g,c,Sort.putCells id 0 (flatK enc k d') J,E,hb,?_,M,hcm,?_,?_⟩⟩,⟨E,E,E,?_,λj hj hne=>?_⟩⟩
 ·rw[hW,Array.getElem?_append_left (by simpa using hg),Array.getElem?_modify,if_pos E,hh];rfl
 ·simp[Sort.putCells,O]
 ·refine ext_getElem? λt=>?_;by_cases Z:t<n*k
  ·rw[getElem?_take_of_lt Z,Zr hk d' (by rw[hd];exact Z)];have htc:t<J.size:=by rw[O];exact Nat.lt_of_lt_of_le Z (mul_le_mul_right _ M)
   simp[Sort.putCells,htc,hd,Z]
  rw[List.getElem?_eq_none (by rw[length_take];omega),List.getElem?_eq_none (by rw[I];omega)]
 ·rw[hW];simp
 rw[hW,Array.getElem?_append_left (by simpa using hj),Array.getElem?_modify,if_neg (λh=>hne (by rw[h]))]
end
end
class zJ (α:Type) where
 size:Nat
 QF:α->List Int
 of:List Int->α
 pos:0<size
 len:∀a,(QF a).length=size
 inv:∀xs:List Int,xs.length=size->QF (of xs)=xs
section
variable {α:Type}[zJ α]
open zJ
def rV(a:α):List Value:=(QF a).map (Value.int .i64)
def kD(l:List α):List Value:=l.flatMap rV
def xw(a:α):(rV a).length=size α:=by simp[rV,len]
def um(l:List α):(kD l).length=l.length*size α:=by
 induction l with
 |nil=>simp[kD]
 |cons e l h=>simp only[kD,flatMap_cons,length_append,length_cons]at*;rw[h,xw,succ_mul];omega
def FI(l:List α):∀u∈kD l,u.oneCell'=true:=by
 intro u h;simp only[kD,rV,mem_flatMap,mem_map]at h;obtain⟨e,_,x,_,rfl⟩:=h;rfl
def FJ{l:List α}{k j:Nat}{a:α}{v:Int}(h:l[k]? =some a)(I:(QF a)[j]? =some v):(kD l)[k*size α+j]? =some (.int .i64 v):=by
 induction l generalizing k with
 |nil=>simp at h
 |cons x l J=>
  have M:kD (x::l)=rV x++kD l:=by simp[kD]
  have O:=xw x;have Z:j<size α:=by
   have:=(List.getElem?_eq_some_iff.1 I).1;rw[len]at this;exact this
  rw[M]
  cases k with
  |zero=>
   simp at h;subst h;rw[Nat.zero_mul,Nat.zero_add,getElem?_append_left Y];simp[rV,I]
  |succ k=>
   rw[getElem?_append_right (by rw[succ_mul];omega),O,show(k+1)*size α+j-size α=k*size α+j by rw[succ_mul];omega];exact J (by simpa using h)
variable {w:World}{B n:Nat}{A:Option Addr}{l:List α}
def Rd.P5(h:Rd w B (size α) A n (kD l)):l.length=n:=by
 have:=h.1;rw[um]at this;exact eq_of_mul_eq_mul_right (pos (α:=α)) this
def Rd.aqA{k:Nat}(h:Rd w B (size α) A n (kD l))(O:k<n):∃b off a,A=some ⟨b,off,none⟩/\b<B/\l[k]? =some a/\
  ∀j v,(QF a)[j]? =some v->w.cell? ⟨b,off+(k*size α+j),none⟩=some (.int .i64 v):=by
 have Z:=h.P5;obtain⟨b,off,e,I,J⟩:=h.2 Y;have he:l[k]? =some (l[k]'Y):=getElem?_eq_getElem Y;exact⟨b,off,_,e,I,he,λj v M=>J _ _ (FJ he M)⟩
def aa0{cs:List Value}{m:Nat}(h:dZ WT cs (replicate m (.int .i64))):∃xs:List Int,xs.length=m/\cs=xs.map (Value.int .i64):=by
 induction m generalizing cs with
 |zero=>exact⟨[],E,dZ.xO h⟩
 |succ m I=>
  obtain⟨a,O,rfl,⟨x,rfl,_⟩,J⟩:=dZ.xA h;obtain⟨xs,M,rfl⟩:=I J;exact⟨x::xs,by simp[M],E⟩
def aa1{W:World}{v:Value}{b:Nat}(h:Fits W v (.sl b (replicate (size α) (.int .i64)))):
 ∃A n c,∃l:List α,v=.slice A n c/\Rd W W.heap.size (size α) A n (kD l)/\n<=c/\c<=maxLen/\c*b<=reachBytes/\(A=none->c=0):=by
 have hp:=pos (α:=α)
 rcases h with rfl|⟨M,n,c,rfl,hn,hc,hr,I⟩
 ·exact⟨none,0,0,[],E,⟨by simp[kD],λh=>absurd h Y⟩,Nat.le_refl _,zero_le _,by simp,λ_=>E⟩
 have O:∀i,i<n-> ∃x:α,M.block<W.heap.size/\ ∀j u,(rV x)[j]? =some u->W.cell? (M.add (i*size α+j))=some u:=by
  intro i hi;obtain⟨cs,h2,hb,Z⟩:=I i hi;obtain⟨xs,hx,rfl⟩:=aa0 h2;rw[length_replicate]at hb Z;refine⟨of xs,hb hp,λj u hj=>Z j u ?_⟩;rw[rV,inv xs hx]at hj;exact hj
 have hd:∃x:α,True:=⟨of [],trivial⟩;obtain⟨f,hf⟩:∃f:Nat->α,∀i,i<n->M.block<W.heap.size/\ ∀j u,(rV (f i))[j]? =some u->W.cell? (M.add (i*size α+j))=some u:=by
  refine⟨λi=>if hi:i<n then Classical.choose (O i hi)else of [],λi hi=>?_⟩;simp only[hi,dif_pos];exact Classical.choose_spec (O i hi)
 refine⟨some M,n,c,(range n).map f,E,⟨by rw[um];simp,λh0=>?_⟩,hn,hc,hr,λh=>by cases h⟩;obtain⟨b,off,spot⟩:=M;have J:spot=none:=by
  have h1:(rV (f 0))[0]? =some ((rV (f 0))[0]'(by rw[xw];exact hp)):=getElem?_eq_getElem _;simpa[Addr.add]using World.cell?_spot ((hf 0 h0).2 0 _ h1)
 subst J;refine⟨b,off,E,(hf 0 h0).1,λj u hu=>?_⟩;have hj:j<n*size α:=by
  have:=(List.getElem?_eq_some_iff.1 hu).1;rw[um]at this;simpa using this
 have hk:j / size α<n:=Nat.div_lt_of_lt_mul (by rw[Nat.mul_comm];exact hj);have hm:j % size α<size α:=mod_lt _ hp;have hg:((range n).map f)[j / size α]? =some (f (j / size α)):=by simp[hk]
 have e:j / size α*size α+j % size α=j:=by rw[Nat.mul_comm];exact div_add_mod j (size α)
 have h7:=(hf (j / size α) hk).2 (j % size α) u;rw[Go.WideShapes.add_plain,e]at h7;refine h7 ?_;have hi:(QF (f (j / size α)))[j % size α]? =some ((QF (f (j / size α)))[j % size α]'(by rw[len];exact hm)):=getElem?_eq_getElem _;have h8:=FJ hg hi;rw[e,hu]at h8;rw[rV,getElem?_map,hi];exact h8.symm
end
def zm:∀ {xs ys:List Int},xs.length=ys.length->eD (xs.map (Value.int .i64)) (ys.map (Value.int .i64))=decide (xs=ys)
 |[],[],_=>by simp[eD]
 |x::xs,y::ys,h=>by
  have I:=zm (xs:=xs) (ys:=ys) (by simpa using h);simp only[map_cons,eD,uh,I,List.cons.injEq];rw[Bool.eq_iff_iff];simp
 |[],_::_,h=>by simp at h
 |_::_,[],h=>by simp at h
def yw:∀(xs:List Int),dZ Kd (xs.map (Value.int .i64)) (replicate xs.length (.at_ (.int .i64)))
 |[]=>trivial
 |_::xs=>⟨⟨_,E⟩,yw xs⟩
inductive Pick (l:Nj):List Nat->Nj->Prop
 |z:Pick l [] []
 |s {k:Nat} {ks:List Nat} {v:Value} {l':Nj}:lk l k=some v->Pick l ks l'->Pick l (k::ks) ((k,v)::l')
def Pick.sub{l:Nj}{ks:List Nat}{l':Nj}(h:Pick l ks l'):Ma l l':=by
 induction h with
 |z=>exact trivial
 |s h _ I=>exact⟨h,I⟩
inductive iT (f:J8):List J8->Nat->List J8->Prop
 |z {g:J8} {fs:List J8}:iT f (g::fs) 0 (f::fs)
 |s {g:J8} {fs fs':List J8} {i:Nat}:iT f fs i fs'->iT f (g::fs) (i+1) (g::fs')
def iT.eq{f:J8}{fs fs':List J8}{i:Nat}(h:iT f fs i fs'):fs.set i f=fs':=by
 induction h with
 |z=>rfl
 |s _ I=>rw[set_cons_succ,I]
def amt:List Nat->List J8->List J8
 |[],fs=>fs
 |i::is,fs=>amt is (fs.eraseIdx i)
def St.qp{B:Nat}{w0 w:World}:∀ {fs:List J8} (_:St B w0 w fs) (is:List Nat),St B w0 w (amt is fs)
 |_,S,[]=>S
 |_,S,i::is=>(St.del i S).qp is
def JH{α:Type}{enc:α->List Value}{w:World}{B sz n:Nat}{A:Option Addr}{l:List α}(k:Nat)(h:Rd w B sz A n (l.flatMap enc))(J:k<n)(hs:∀x,(enc x).length=sz:=by exact λ_=>E)(I:blt 0 sz=true:=by exact E):∃x,l[k]? =some x:=by
 have h1:=h.1;rw[iL hs]at h1;have M:l.length=n:=eq_of_mul_eq_mul_right (le_of_ble_eq_true I) h1;exact⟨_,getElem?_eq_getElem Y⟩
section
variable {P:Program}{N:Nat}{l l':Nj}{w w' w0:World}{ops:Array Oper}{o:Oper}{rest:List Oper}{Q:Exit->Act->World->Prop}{d B:Nat}{v p:Value}{fs fs':List J8}{ex:Exit}
def qk(ks:List Nat)(h:wQ N Q .normal l' w)(I:Pick l ks l':=by repeat' first|exact Pick.z|apply Pick.s rfl):wL P N ops Q [] l w:=aem (bX I.sub h)
def cw{c:Code}(ks:List Nat)(h:wC P N c Q l' w)(I:Pick l ks l':=by repeat' first|exact Pick.z|apply Pick.s rfl):wC P N c Q l w:=bI I.sub h
section
variable {x:Operand}
def ym(h:o.op=.move x:=by exact E)(I:ev l x=some v:=by exact E):jr P N l o w v:=aen h I
def ya(h:o.op=.assign x:=by exact E)(I:ev l x=some v:=by exact E):jr P N l o w v:=SB h I
def yx{k:Nat}{vs:Array Value}(h:o.op=.extract x k:=by exact E)(I:ev l x=some (.tuple vs):=by exact E)(J:vs[k]? =some v:=by exact E):jr P N l o w v:=aaO h I J
def ypT{c y:Operand}(h:o.op=.pick c x y:=by exact E)(I:ev l c=some (.bool true):=by exact E)(J:ev l x=some v:=by exact E):jr P N l o w v:=afN h I J
def ypF{c y:Operand}(h:o.op=.pick c x y:=by exact E)(I:ev l c=some (.bool false):=by exact E)(J:ev l y=some v:=by exact E):jr P N l o w v:=afO h I J
def yno{t:TypeId}{b c:Bool}(h:o.op=.unOp .not t x:=by exact E)(I:ev l x=some (.bool b):=by exact E)(J:(!b)=c:=by exact E):jr P N l o w (.bool c):=J▸aeo h I avH
def wo{s:TypeId}{f b o0:Nat}{g:Nat->Nat}(h:Nat)(I:∀(b o:Nat) (w:World),(Instr.fieldAt s (.pointer (some ⟨b,o,none⟩)) f).run P w=.ok (.pointer (some ⟨b,g o,none⟩)) w)(J:o.op=.fieldAddr s x f:=by exact E)
  (M:ev l x=some (.pointer (some ⟨b,o0,none⟩)):=by exact E) (he:g o0=h:=by exact E):jr P N l o w (.pointer (some ⟨b,h,none⟩)):=he▸Hw J M (I b o0 w)
def jv{t:TypeId}(h:o.op=.build t ([]:List (Nat×Operand)).toArray:=by exact E)(I:(Instr.build t ([]:List (Nat×Value)).toArray).run P w=.ok (.agg #[D 0,D 0,D 0,D 0,D 0,.slice none 0 0]) w:=by kernel_rfl):jr P N l o w (.agg #[D 0,D 0,D 0,D 0,D 0,.slice none 0 0]):=Ed (vs:=[]) h trivial I
def yz{t:TypeId}(h:o.op=.build t ([]:List (Nat×Operand)).toArray:=by exact E)(I:(Instr.build t ([]:List (Nat×Value)).toArray).run P w=.ok v w:=by kernel_rfl):jr P N l o w v:=Ed (vs:=[]) h trivial I
end
section
variable {t tt:TypeId}{kd:IntKind}{xo yo:Operand}{x y:Int}
def Da(I:o.op=.binOp .lss t xo yo tt:=by exact E)(J:ev l xo=some (.int kd x):=by exact E)(M:ev l yo=some (.int kd y):=by exact E)(h:x<y:=by decide):jr P N l o w (.bool true):=bM I J M (Zf h)
def amu(I:o.op=.binOp .lss t xo yo tt:=by exact E)(J:ev l xo=some (.int kd x):=by exact E)(M:ev l yo=some (.int kd y):=by exact E)(h:¬x<y:=by decide):jr P N l o w (.bool false):=bM I J M (Zg h)
def amv(h:x=y)(I:o.op=.binOp .eql t xo yo tt:=by exact E)(J:ev l xo=some (.int kd x):=by exact E)(M:ev l yo=some (.int kd y):=by exact E):jr P N l o w (.bool true):=bM I J M (Zh h)
def ad6(h:¬x=y)(I:o.op=.binOp .eql t xo yo tt:=by exact E)(J:ev l xo=some (.int kd x):=by exact E)(M:ev l yo=some (.int kd y):=by exact E):jr P N l o w (.bool false):=bM I J M (Zi h)
def av6(I:o.op=.binOp .neq t xo yo tt:=by exact E)(J:ev l xo=some (.int kd x):=by exact E)(M:ev l yo=some (.int kd y):=by exact E)(h:x=y:=by decide):jr P N l o w (.bool false):=bM I J M (PO h)
end
section
variable {C:World->Prop}{Qa:Act->Prop}{j:Nat}{t:Nat}{u:Value}{x:Operand}
def vv(I:jr P N l o w v)(h:wL P N ops Q rest ((d,v)::l) w)(hw:o.guard=none:=by exact E)(J:o.dst=some d:=by exact E)(M:blt d N=true:=by exact E):wL P N ops Q (o::rest) l w:=Fx (wn hw) J M I h
def vm(h:wL P N ops Q rest ((d,v)::l) w)(hw:o.guard=none:=by exact E)(I:o.dst=some d:=by exact E)(J:blt d N=true:=by exact E)(M:o.op=.move x:=by exact E)(O:ev l x=some v:=by exact E):wL P N ops Q (o::rest) l w:=Fx (wn hw) I J (aen M O) h
def va(h:wL P N ops Q rest ((d,v)::l) w)(hw:o.guard=none:=by exact E)(I:o.dst=some d:=by exact E)(J:blt d N=true:=by exact E)(M:o.op=.assign x:=by exact E)(O:ev l x=some v:=by exact E):wL P N ops Q (o::rest) l w:=Fx (wn hw) I J (SB M O) h
def vg{b:Bool}(I:jr P N l o w v)(h:wL P N ops Q rest ((d,v)::l) w)(J:o.guard=some (j,b):=by exact E)(M:(ops[j]?).bind (·.dst)=some t:=by exact E)(hv:lk l t=some u:=by exact E)(O:(yl u==some b)=true:=by exact E)
  (Z:o.dst=some d:=by exact E) (hN:blt d N=true:=by exact E):wL P N ops Q (o::rest) l w:=Fx (wg J M hv O) Z hN I h
def vs{b:Bool}(h:wL P N ops Q rest ((d,undef)::l) w)(I:o.guard=some (j,b):=by exact E)(J:(ops[j]?).bind (·.dst)=some t:=by exact E)(hv:lk l t=some u:=by exact E)(M:(yl u==some b)=false:=by exact E)(O:o.dst=some d:=by exact E)(Z:blt d N=true:=by exact E):wL P N ops Q (o::rest) l w:=Ze (wg I J hv M) O Z h
def uv(I:∀w,C w->jr P N l o w v)(h:wU P N ops C Qa rest ((d,v)::l))(hw:o.guard=none:=by exact E)(J:o.dst=some d:=by exact E)(M:blt d N=true:=by exact E):wU P N ops C Qa (o::rest) l:=NK (wn hw) J M I h
def ug{b:Bool}(I:∀w,C w->jr P N l o w v)(h:wU P N ops C Qa rest ((d,v)::l))(J:o.guard=some (j,b):=by exact E)(M:(ops[j]?).bind (·.dst)=some t:=by exact E)(hv:lk l t=some u:=by exact E)(O:(yl u==some b)=true:=by exact E)
  (Z:o.dst=some d:=by exact E) (hN:blt d N=true:=by exact E):wU P N ops C Qa (o::rest) l:=NK (wg J M hv O) Z hN I h
def ak{n:Nat}{listed listed':Array Bool}(i:Nat)(hi:ops[i]? =some o)(I:C w)(J:∀w,C w->jr P N l o w v)(h:wA P N ops Q C n listed' ((d,v)::l) w)(hs:Region.noSelect ops=true:=by kernel_rfl)(M:Region.free .any ops listed i=true:=by kernel_rfl)
  (O:(Region.ready .any ops listed).contains i=true:=by kernel_rfl) (Z:listed.setIfInBounds i true=listed':=by exact E) (hw:o.guard=none:=by exact E) (hd:o.dst=some d:=by exact E) (hN:blt d N=true:=by exact E):wA P N ops Q C (n+1) listed l w:=Bg hi hs M O I Z (wn hw) hd hN J h
def gk{n m:Nat}{listed listed':Array Bool}(i:Nat)(hi:ops[i]? =some o)(O:C w)(Z:∀w,C w->jr P N l o w v)(h:wG P N ops Q C n m listed' ((d,v)::l) w)(hs:Region.noSelect ops=true:=by kernel_rfl)(hf:Region.free .any ops listed i=true:=by kernel_rfl)
  (hr:(Region.ready .any ops listed).contains i=true:=by kernel_rfl) (I:listed.getD n true=false:=by exact E) (J:xP ops n i=true:=by kernel_rfl) (M:beq n i=false:=by exact E) (hl:listed.setIfInBounds i true=listed':=by exact E) (hw:o.guard=none:=by exact E)
  (hd:o.dst=some d:=by exact E) (hN:blt d N=true:=by exact E):wG P N ops Q C n (m+1) listed l w:=Ef hi hs hf hr I J M O hl (wn hw) hd hN Z h
def bg{n:Nat}{listed:Array Bool}(r:Nat)(h:wK P N ops Q C n r listed l w)(I:Region.ready .any ops listed=[r]:=by kernel_rfl):wA P N ops Q C (n+1) listed l w:=apn I h
end
section
variable {b m f:Nat}{row row' cs:Array Value}{t ty:TypeId}{x y:Operand}{ds:TypeDesc}{z u:Value}
def sa(i:Nat)(S:St B w0 w fs)(I:(P.info? ty).map (·.size)=some m)(h:∀w',St B w0 w' fs'->wL P N ops Q rest l w')(hw:o.guard=none:=by exact E)(J:o.dst=none:=by exact E)(M:o.op=.store ty x y:=by exact E)
  (O:ev l x=some (.pointer (some ⟨b,0,none⟩)):=by exact E) (Z:ev l y=some v:=by exact E) (hi:fs[i]? =some (.Mg b row t):=by exact E) (hv:v.cells=cs:=by exact E) (hm:cs.size=m:=by exact E)
  (h1:cs.toList.all (·.oneCell')=true:=by exact E) (hr:ble m row.size=true:=by exact E) (hs:row.size=cs.size:=by exact E) (hf:iT (.Mg b cs t) fs i fs':=by repeat' first|exact iT.z|apply iT.s):wL P N ops Q (o::rest) l w:=
 Fz i S (wn hw) J M O Z hi hv I hm (bY h1) (by rw[Nat.zero_add];exact le_of_ble_eq_true hr) (rF hs) hf.eq h
def sr{off:Nat}{row':Array Value}(i:Nat)(S:St B w0 w fs)(I:(P.info? ty).map (·.size)=some m)(h:∀w',St B w0 w' fs'->wL P N ops Q rest l w')(hw:o.guard=none:=by exact E)(J:o.dst=none:=by exact E)(M:o.op=.store ty x y:=by exact E)
  (O:ev l x=some (.pointer (some ⟨b,off,none⟩)):=by exact E) (Z:ev l y=some v:=by exact E) (hi:fs[i]? =some (.Mg b row t):=by exact E) (hv:v.cells=cs:=by exact E) (hm:cs.size=m:=by exact E)
  (h1:cs.toList.all (·.oneCell')=true:=by exact E) (hr:ble (off+m) row.size=true:=by exact E) (hs:dn row off cs.toList=row':=by exact E) (hf:iT (.Mg b row' t) fs i fs':=by repeat' first|exact iT.z|apply iT.s):wL P N ops Q (o::rest) l w:=
 Fz i S (wn hw) J M O Z hi hv I hm (bY h1) (le_of_ble_eq_true hr) hs hf.eq h
def sn{C:World->Prop}{n:Nat}{listed listed':Array Bool}(j:Nat)(I:ops[j]? =some o)(i:Nat)(S:St B w0 w fs)(J:(P.info? ty).map (·.size)=some m)(h:∀w',St B w0 w' fs'->C w'/\wA P N ops Q C n listed' l w')(M:listed.setIfInBounds j true=listed':=by exact E)
  (hw:o.guard=none:=by exact E) (O:o.dst=none:=by exact E) (Z:o.op=.store ty x y:=by exact E) (hx:ev l x=some (.pointer (some ⟨b,0,none⟩)):=by exact E) (hy:ev l y=some v:=by exact E) (hi:fs[i]? =some (.Mg b row t):=by exact E) (hv:v.cells=cs:=by exact E)
  (hm:cs.size=m:=by exact E) (h1:cs.toList.all (·.oneCell')=true:=by exact E) (hr:ble m row.size=true:=by exact E) (hs:row.size=cs.size:=by exact E) (hf:iT (.Mg b cs t) fs i fs':=by repeat' first|exact iT.z|apply iT.s):wK P N ops Q C n j listed l w:=
 uH I M i S (wn hw) O Z hx hy hi hv J hm (bY h1) (by rw[Nat.zero_add];exact le_of_ble_eq_true hr) (rF hs) hf.eq h
def yO{vs:List Value}{R:Ending->World->Prop}{xs:List Operand}{ts:Array TypeId}{j tg:Nat}{bb:Bool}(I:∀args w,(callFunc f args).run P w=.ok (.enter f args) w)(J:Calls P f vs.toArray w R)(h:∀e w',R e w'-> ∃v,e=.returned v/\wL P N ops Q rest ((d,v)::l) w')
  (M:o.guard=some (j,bb):=by exact E) (O:(ops[j]?).bind (·.dst)=some tg:=by exact E) (hv:lk l tg=some u:=by exact E) (Z:(yl u==some bb)=true:=by exact E) (hd:o.dst=some d:=by exact E) (hN:blt d N=true:=by exact E)
  (ho:o.op=.call {callee:=.value (.func f),args:=xs.toArray,argTypes:=ts}:=by exact E) (hx:QB l xs vs:=by repeat' first|exact trivial|refine⟨rfl,?_⟩):wL P N ops Q (o::rest) l w:=IL (wg M O hv Z) hd hN (iY ho I hx) J h
def nb{row:Array Value}(S:St B w0 w fs)(h:∀b w',St B w0 w' (.Mg b row t::fs)->wL P N ops Q rest ((d,.pointer (some ⟨b,0,none⟩))::l) w')(hw:o.guard=none:=by exact E)(I:o.dst=some d:=by exact E)
  (J:blt d N=true:=by exact E) (M:o.op=.box t x:=by exact E) (O:ev l x=some p:=by exact E) (Z:p.cells=row:=by exact E):wL P N ops Q (o::rest) l w:=mV (V:=λb=>.pointer (some ⟨b,0,none⟩)) S (wn hw) I J (ad1 M O Z) h
def dJ{vs:List Value}{R:Ending->World->Prop}{xs:List Operand}{ts:Array TypeId}(I:∀args w,(callFunc f args).run P w=.ok (.enter f args) w)(J:Calls P f vs.toArray w R)(h:∀e w',R e w'-> ∃v,e=.returned v/\wL P N ops Q rest ((d,v)::l) w')
  (hw:o.guard=none:=by exact E) (M:o.dst=some d:=by exact E) (O:blt d N=true:=by exact E) (Z:o.op=.call {callee:=.value (.func f),args:=xs.toArray,argTypes:=ts}:=by exact E) (hx:QB l xs vs:=by repeat' first|exact trivial|refine⟨rfl,?_⟩):
  wL P N ops Q (o::rest) l w:=IL (wn hw) M O (iY Z I hx) J h
def Rq{vs:List Value}{xs:List Operand}{ts:Array TypeId}(I:∀args w,(callFunc f args).run P w=.ok (.enter f args) w)(S:St B w0 w fs)(M:Calls P f vs.toArray w λe w'=>e=.returned v/\Below w.heap.size w w')(h:∀w',St B w0 w' fs->wL P N ops Q rest ((d,v)::l) w')
  (hw:o.guard=none:=by exact E) (O:o.dst=some d:=by exact E) (Z:blt d N=true:=by exact E) (ho:o.op=.call {callee:=.value (.func f),args:=xs.toArray,argTypes:=ts}:=by exact E) (hx:QB l xs vs:=by repeat' first|exact trivial|refine⟨rfl,?_⟩):
  wL P N ops Q (o::rest) l w:=IL (wn hw) O Z (iY ho I hx) M λ_ w' J=>⟨v,J.1,h w' (S.on J.2)⟩
def pt{fn:Func}{R:Ending->World->Prop}{j:Nat}(h:R (.returned (qH [v])) w)(I:fn.results=[ResultVar.tmp j].toArray:=by exact E)(J:lk l j=some v:=by exact E):wQ N (bodyPost P fn R) .ret l w:=dW (vs:=[v]) I ⟨J,trivial⟩ h
def gP{fn:Func}{c:Code}{vs:List Value}{R:Ending->World->Prop}(N:Nat)(I:P.funcs[f]? =some fn)(h:wC P N c (bodyPost P fn R) (ents 0 vs) w)(J:fn.body=some c:=by exact E)(hn:fn.ntmps=N:=by exact E)(M:ble vs.length N=true:=by exact E):Calls P f vs.toArray w R:=Ht I J hn M h
end
def CJ{c6 Z:Code}{J:Exit->Act->World->Prop}{o4:Operand}{M:Nat}{I:List Oper}(h:wL P N I.toArray (Exit.then (Z.wp P J) J) I l w)(O:ev l o4=some (.bool true):=by exact E):wQ N (Exit.then ((Code.cond o4 (Code.seq (Code.region M I.toArray false) Z) c6).wp P J) J) .normal l w:=iw (mo O (aQ (aC h)))
def WV{M:Code}{J:Exit->Act->World->Prop}{O:Nat}{I:List Oper}(h:wL P N I.toArray (Exit.then (M.wp P J) J) I l w):wQ N (Exit.then ((Code.seq (Code.region O I.toArray false) M).wp P J) J) .normal l w:=iw (aQ (aC h))
def VT{M O:Code}{J:Exit->Act->World->Prop}{Z:Nat}{I:List Oper}(h:wL P N I.toArray (Exit.then (O.wp P (Exit.then (M.wp P J) J)) (Exit.then (M.wp P J) J)) I l w):wQ N (Exit.then ((Code.seq (Code.seq (Code.region Z I.toArray false) O) M).wp P J) J) .normal l w:=iw (aQ (aQ (aC h)))
def anL{I:Exit->Act->World->Prop}(h:wQ N I .ret l w):wQ N (Exit.then (Code.ret.wp P I) I) .normal l w:=iw (oH h)
def afX{c5 J:Code}{M:Exit->Act->World->Prop}{o4:Operand}{O:Nat}{I:List Oper}(h:wL P N I.toArray (Exit.then (J.wp P M) M) I l w)(Z:ev l o4=some (.bool false):=by exact E):wQ N (Exit.then ((Code.cond o4 c5 Code.skip).wp P (Exit.then ((Code.seq (Code.region O I.toArray false) J).wp P M) M)) (Exit.then ((Code.seq (Code.region O I.toArray false) J).wp P M) M)) .normal l w:=iw (mq Z (qQ (iw (aQ (aC h)))))
def azt{M:Code}{J:Exit->Act->World->Prop}{O:Nat}{I:List Oper}(h:wL P N I.toArray (Exit.then (M.wp P J) J) I l w):wC P N (Code.seq (Code.region O I.toArray false) M) J l w:=aQ (aC h)
end
section
open ChangeAt
section
variable {P:Program}{N:Nat}{l:Nj}{w w' w0:World}{B:Nat}{fs fs':List J8}{ops:Array Oper}{o:Oper}{rest:List Oper}{Q:Exit->Act->World->Prop}{v:Value}{d:Nat}
def Rd.aeD{e:TypeId}{s n c:Nat}{A:Option Addr}{xs:List Value}(h:oG w B e s A n c xs):Rd w w.heap.size s A n xs:=by
 obtain⟨h1,h2,h3,⟨rfl,M⟩|⟨g,o,O,rfl,M,J,h6,Z⟩⟩:=h
 ·exact⟨h1,λhn=>absurd hn Y⟩
 refine⟨h1,λ_=>⟨g,o,E,(Array.getElem?_eq_some_iff.1 J).1,λj u I=>?_⟩⟩;rw[<-Z]at I;have hj:j<n*s:=by
  have:=(List.getElem?_eq_some_iff.1 I).1;rw[length_take]at this;omega
 rw[getElem?_take_of_lt hj,getElem?_drop]at I;rw[cell_of_row w g (o+j) _ e (0,0) J];simpa using I
def oG.xO(w:World)(B:Nat)(e:TypeId)(s:Nat):oG w B e s none 0 0 []:=⟨by simp,Nat.le_refl _,zero_le _,.inl ⟨E,E⟩⟩
def oG.uf{e:TypeId}{s n c:Nat}{A:Option Addr}{xs:List Value}(h:w.ownsRow B e s (.slice A n c) n xs):oG w B e s A n c xs:=by
 obtain⟨h1,⟨Z,rfl⟩|⟨g,cap,I,hv,hg,hh,J,M,hsz,O⟩⟩:=h
 ·injection Z with a b c'
  subst a;subst c';exact⟨h1,Nat.le_refl _,zero_le _,.inl ⟨E,E⟩⟩
 injection hv with a b c'
 subst a;subst c';exact⟨h1,J,M,.inr ⟨g,0,I,E,hg,hh,by omega,by simpa using O⟩⟩
def oG.cut{e:TypeId}{s n c k:Nat}{A:Option Addr}{xs:List Value}(h:oG w B e s A n c xs)(hk:k<=n):oG w B e s (if c=k then A else A.map (·.add (k*s))) (n-k) (c-k) (xs.drop (k*s)):=by
 obtain⟨h1,h2,h3,I⟩:=h;refine⟨by rw[length_drop,h1,Nat.sub_mul],by omega,by omega,?_⟩
 rcases I with⟨rfl,I⟩|⟨g,o,J,rfl,I,M,h6,O⟩
 ·exact .inl ⟨by split<;>rfl,by omega⟩
 refine .inr ?_;by_cases Z:c=k
 ·rw[if_pos Z];have hn:n=k:=Y;refine⟨g,o,J,E,I,M,by rw[show c-k=0 by omega];omega,?_⟩;rw[show n-k=0 by omega,Nat.zero_mul,take_zero,<-O,hn,drop_take,Nat.sub_self,take_zero]
 rw[if_neg Z];refine⟨g,o+k*s,J,by simp[Addr.add],I,M,?_,?_⟩
 ·have:k*s+(c-k)*s=c*s:=by rw[<-Nat.add_mul];congr 1;omega
  omega
 rw[<-O,drop_take,drop_drop,<-Nat.sub_mul]
def aaP (w:World) (B:Nat) (t ty e:TypeId) (i:TypeInfo) (z:Value) (size bytes:Nat) (ht:P.underlying t=some (.slice e)) (hi:P.info? e=some i) (hz:i.zero=some z)
    (hsize:i.size=size) (hby:i.bytes=bytes) (hzs:z.cells.size=size) (hsz:0<size) (A:Option Addr) (n c:Nat) (xs:List Value) (hown:oG w B e size A n c xs)
    (a:Addr) (m c2:Nat) (news:List Value) (hl:news.length=m*size) (I:∀j u,news[j]? =some u->w.cell? (a.add j)=some u) (h1:∀u∈news,u.oneCell'=true)
    (h63:n+m<=maxLen) (M:(n+m)*bytes<=140737488355328) (hbase:B<=w.heap.size) (hm:0<m):
    ∃A' c' w',(Builtin.append_ #[t,t] ty #[.slice A n c,.slice (some a) m c2]).run P w=.ok (.slice A' (n+m) c') w'/\oG w' B e size A' (n+m) c' (xs++news)/\w.grownBy w' (A.map (·.block))/\
      (A'.map (·.block)=A.map (·.block)\/A'.map (·.block)=some w.heap.size):=by
  subst hsize;subst hby;have hsmall:n+m<=9223372036854775807:=by simp only[maxLen]at h63;omega
  have hrd:=Rd.aeD hown;obtain⟨hx1,hx2,hx3,hx4⟩:=hown;have O:(xs++news).length=(n+m)*i.size:=by rw[length_append,hx1,hl,Nat.add_mul]
  have grown: ∀ (h:Nat),h<n+m-> ∀ (row:Option Nat),
      oG (w.drew.alloc (.cells (xs.toArray++news.toArray++Builtin.zeroCells z.cells (grownCap w (n+m) h e-(n+m))) e)) B e i.size (some ⟨w.heap.size,0,none⟩) (n+m) (grownCap w (n+m) h e) (xs++news)/\
      w.grownBy (w.drew.alloc (.cells (xs.toArray++news.toArray++Builtin.zeroCells z.cells (grownCap w (n+m) h e-(n+m))) e)) row:=by
    intro h ho row;have hge:=grownCap_ge w (n+m) h e;have hcm:grownCap w (n+m) h e<=maxLen:=grownCap_le_maxLen w (n+m) h e h63;refine⟨⟨O,hge,hcm,.inr ⟨w.heap.size,0,_,E,hbase,heap_alloc_new w.drew _,?_,?_⟩⟩,⟨E,E,E,by simp,λk hk _=>heap_alloc_old w.drew _ hk⟩⟩
    · simp only[Array.size_append,size_toArray,size_zeroCells,hzs,hx1,hl,<-Nat.add_mul]
      rw[Nat.zero_add];refine mul_le_mul_right _ ?_;omega
    · simp only[Array.toList_append,append_assoc,drop_zero]
      rw[<-append_assoc,<-O];exact take_left
  rcases hx4 with⟨rfl,rfl⟩|⟨g,of,cur,rfl,hg,hh,hcs,htake⟩
  · have hn0:n=0:=Y
    subst hn0;have hx:xs=[]:=eq_nil_of_length_eq_zero (by simpa using hx1);subst hx;have hr:=run_append_nil (P:=P) w t ty e i z ht hi hz a m c2 news hl I Y Y (by have hb:=M;simp only[Nat.zero_add]at hb;omega);have Z:=grown 0 Y none;simp only[Nat.zero_add,nil_append,Array.empty_append]at Z⊢;exact⟨_,_,_,hr,Z.1,Z.2,Or.inr E⟩
  · by_cases J:n+m<=c
    · have hle:(n+m)*i.size<=c*i.size:=mul_le_mul_right _ J
      have hfit:of+n*i.size+news.length<=cur.size:=by rw[hl,Nat.add_assoc,<-Nat.add_mul];omega
      have hb:gB w g cur e:=⟨hh⟩;have hr:=run_append_room_cells (P:=P) (w:=w) t ty e i ht hi g of n c a m c2 news hl I h1 J
        (λj hj=>by rw[hb.cell (k:=of+n*i.size+j) (Array.getElem?_eq_getElem Y)];rfl) (λj _=>hb.free _)
      have hb':=jK news (of+n*i.size) hb;refine⟨_,_,_,hr,⟨O,J,hx3,.inr ⟨g,of,_,E,hg,hb'.Mg,by rw[nO];exact hcs,?_⟩⟩,?_,Or.inl E⟩
      · rw[iC _ _ _ hfit,<-O]
        have e1:(cur.toList.take (of+n*i.size)).drop of=xs:=by rw[<-htake,drop_take];congr 1;omega
        have e2:of<=(cur.toList.take (of+n*i.size)).length:=by rw[length_take,Array.length_toList];omega
        rw[append_assoc,drop_append_of_le_length e2,e1,<-append_assoc];exact take_left
      · have hu:=jL g news (of+n*i.size) w
        exact⟨hu.os,hu.tape,hu.output,Nat.le_of_eq hu.size.symm,λk _ hk=>hu.block k (λe=>hk (by simp[e]))⟩
    · have hr:=run_append_grow (P:=P) w t ty e i z ht hi hz ⟨g,of,none⟩ n c xs hx1 (λj u hu=>by
          have hj:j<n*i.size:=by have:=(List.getElem?_eq_some_iff.1 hu).1;omega
          obtain⟨b,off,e1,_,hc⟩:=hrd.2 (Nat.pos_of_ne_zero λh0=>by subst h0;omega)
          injection e1 with e1
          injection e1 with e1 e2
          subst e1;subst e2;rw[Go.WideShapes.add_plain];exact hc j u hu) a m c2 news hl I Y Y (growslice_fits Y M)
      have Z:=grown c Y (some g);exact⟨_,_,_,hr,Z.1,Z.2,Or.inr E⟩
def St.has{f:J8}(S:St B w0 w fs)(h:f∈fs):f.holds B w:=by
 obtain⟨i,hi⟩:=mem_iff_getElem?.1 h;exact S.all i f hi
def St.Nv{b:Nat}{row:Array Value}{t:TypeId}(S:St B w0 w fs)(h:J8.Mg b row t∈fs):gB w b row t:=(S.has h).2
def J8.apart(f g:J8):Prop:= ∀k,f.foot=some k->g.foot≠some k
def J8.apart.symm{f g:J8}(h:f.apart g):g.apart f:=λk h1 I=>h k I h1
def St.iff:St B w0 w fs↔Below B w0 w/\B<=w.heap.size/\(∀f∈fs,f.holds B w)/\fs.Pairwise J8.apart:=by
 constructor
 ·intro S;refine⟨S.Nr,S.base,λf O=>S.has O,pairwise_iff_getElem.2 λi j hi Z I=>?_⟩;exact S.sep i j _ _ Y (getElem?_eq_getElem hi) (getElem?_eq_getElem Z)
 rintro⟨h1,h2,h3,h4⟩;refine⟨h1,h2,λi f O=>h3 f (mem_of_getElem? O),λi j f g I hi Z=>?_⟩;obtain⟨J,rfl⟩:=List.getElem?_eq_some_iff.1 hi;obtain⟨M,rfl⟩:=List.getElem?_eq_some_iff.1 Z
 rcases Nat.lt_or_gt_of_ne I with h|h
 ·exact pairwise_iff_getElem.1 h4 i j J M h
 exact(pairwise_iff_getElem.1 h4 j i M J h).symm
def St.perm{gs:List J8}(S:St B w0 w fs)(h:fs.Perm gs):St B w0 w gs:=by
 obtain⟨h1,I,J,M⟩:=St.iff.1 S;exact St.iff.2 ⟨h1,I,λf O=>J f (h.mem_iff.2 O),(h.pairwise_iff λh=>h.symm).1 M⟩
def St.sub{gs:List J8}(S:St B w0 w fs)(h:gs.Sublist fs):St B w0 w gs:=by
 obtain⟨h1,I,J,M⟩:=St.iff.1 S;exact St.iff.2 ⟨h1,I,λf O=>J f (h.mem O),M.sublist h⟩
def St.ad7{e:TypeId}{s n c:Nat}{A:Option Addr}{xs:List Value}(i:Nat)(S:St B w0 w fs)(hi:fs[i]? =some (.off e s A n c xs)):oG w B e s A n c xs:=S.all i _ hi
def St.av7{e:TypeId}{s n c:Nat}{A:Option Addr}{xs:List Value}(i:Nat)(S:St B w0 w fs)(hi:fs[i]? =some (.off e s A n c xs)):Rd w w.heap.size s A n xs:=Rd.aeD (S.ad7 i hi)
def St.aqB{e:TypeId}{s n c:Nat}{A:Option Addr}{xs:List Value}(i k:Nat)(S:St B w0 w fs)(hi:fs[i]? =some (.off e s A n c xs))(I:k<=n):
 St B w0 w (fs.set i (.off e s (if c=k then A else A.map (·.add (k*s))) (n-k) (c-k) (xs.drop (k*s)))):=by
 refine S.turn i hi S.Nr (Nat.le_refl _) (λ_ _ _=>E) ((S.ad7 i hi).cut I) λJ h=>.inl ?_
 cases A with
 |none=>split at h<;>cases h
 |some a=>
  show some a.block=some J
  split at h
  ·exact h
  have:(a.add (k*s)).block=a.block:=by unfold Addr.add;split<;>rfl
  rw[<-this];exact h
def St.aqC{e:TypeId}{s n c n' c':Nat}{A A':Option Addr}{xs xs':List Value}(i:Nat)(S:St B w0 w fs)(hi:fs[i]? =some (.off e s A n c xs))(M:w.grownBy w' (A.map (·.block)))(ho:oG w' B e s A' n' c' xs')
  (O:A'.map (·.block)=A.map (·.block)\/A'.map (·.block)=some w.heap.size):St B w0 w' (fs.set i (.off e s A' n' c' xs')):=by
 have h:=S.all i _ hi;refine S.turn i hi (S.Nr.grown M S.base (λk I=>(J8.nu h I).1)) M.size (λk I Z=>M.block k I (λe=>Z e.symm)) ho (λk I=>?_);have J:A'.map (·.block)=some k:=I
 rcases O with h1|h1
 ·exact .inl (by rw[<-J,h1];rfl)
 rw[J]at h1
 cases h1;exact .inr (Nat.le_refl _)
def St.CO(S:St B w0 w fs)(e:TypeId)(s:Nat):St B w0 w (.off e s none 0 0 []::fs):=S.cons (oG.xO w B e s) λk h=>by cases h
end
section
variable {P:Program}{N:Nat}{l:Nj}{w w' w0:World}{B m n i:Nat}{fs fs':List J8}{ops:Array Oper}{o:Oper}{rest:List Oper}{Q:Exit->Act->World->Prop}{C:World->Prop}{listed listed':Array Bool}{v:Value}{d:Nat}
def aa2{x y:Operand}{t e:TypeId}{z:Value}{size bytes k q c c0 Br:Nat}{O A:Option Addr}{xs news xs':List Value}(Z:ops[i]? =some o)(hl:listed.setIfInBounds i true=listed')(j:Nat)(S:St B w0 w fs)(hw:Nq N ops l o true)(hd:o.dst=some d)(hN:blt d N=true)
  (ho:o.op=.call {callee:=.builtin .append,args:= #[x,y],argTypes:= #[t,t]}) (hx:ev l x=some (.slice O k c0)) (hy:ev l y=some (.slice A q c)) (hi:fs[j]? =some (.off e size O k c0 xs)) (hr:Rd w Br size A q news) (hq:0<q)
  (ht:P.underlying t=some (.slice e)) (J:(P.info? e).map (λi=>(i.zero,i.size,i.bytes))=some (some z,size,bytes)) (hzs:z.cells.size=size) (hsz:0<size) (h1:∀u∈news,u.oneCell'=true) (h63:k+q<=maxLen) (I:(k+q)*bytes<=140737488355328)
  (hxs:xs++news=xs') (h:∀A' c' w',St B w0 w' (fs.set j (.off e size A' (k+q) c' xs'))->C w'/\wG P N ops Q C n m listed' ((d,.slice A' (k+q) c')::l) w'):wH P N ops Q C n m i listed l w:=by
 subst hxs;obtain⟨j0,hj0,hz,hs,hb⟩:=info_parts J;obtain⟨bb,oo,rfl,_,hc⟩:=hr.2 hq;obtain⟨A',c',w',M,h2,h3,h4⟩:=aaP (P:=P) w B t o.type e j0 z size bytes ht hj0 hz hs hb hzs hsz O k c0 xs (S.ad7 j hi) ⟨bb,oo,none⟩ q c news hr.1 (λa u hu=>by rw[Go.WideShapes.add_plain];exact hc a u hu) h1 h63 I S.base hq;exact ad3 Z hl hw hd hN (Gw (xs:=[x,y]) (vs:=[.slice O k c0,.slice (some ⟨bb,oo,none⟩) q c]) ho ⟨hx,hy,trivial⟩ (λcs=>by simp[builtin,M,Sem.run_bind,Result.andThen])) (h A' c' w' (S.aqC j hi h3 h2 h4))
end
end
abbrev gN (o:Oper)(d N:Nat):Prop:=o.guard=none/\o.dst=some d/\blt d N=true
abbrev gM (o:Oper)(d N:Nat)(p:Prop):Prop:=o.guard=none/\o.dst=some d/\blt d N=true/\p
abbrev gS (o:Oper)(ops:Array Oper)(j:Nat)(b:Bool)(t:Nat):Prop:=o.guard=some (j,b)/\(ops[j]?).bind (·.dst)=some t
abbrev gY (u:Value)(b c:Bool)(o:Oper)(d N:Nat):Prop:=(yl u==some b)=c/\o.dst=some d/\blt d N=true
inductive tq (b:Nat):List J8->Array Value->TypeId->Prop
 |z {row:Array Value} {t:TypeId} {fs:List J8}:tq b (.Mg b row t::fs) row t
 |s {row:Array Value} {t:TypeId} {f:J8} {fs:List J8}:tq b fs row t->tq b (f::fs) row t
def fbQ{b:Nat}{fs:List J8}{row:Array Value}{t:TypeId}(h:tq b fs row t:=by repeat' first|exact tq.z|apply tq.s):tq b fs row t:=h
def tq.at_{b:Nat}{fs:List J8}{row:Array Value}{t:TypeId}(h:tq b fs row t):∃i:Nat,fs[i]? =some (J8.Mg b row t):=by
 induction h with
 |z=>exact⟨0,E⟩
 |s _ I=>obtain⟨i,hi⟩:=I;exact⟨i+1,by simpa using hi⟩
inductive Db:List J8->List J8->Prop
 |r {fs:List J8}:Db fs fs
 |k {f:J8} {fs gs:List J8}:Db fs gs->Db (f::fs) (f::gs)
 |d {f:J8} {fs gs:List J8}:Db fs gs->Db fs (f::gs)
 |a {fs gs:List J8}:Db fs (fs++gs)
def Db.sub{fs gs:List J8}(h:Db fs gs):fs.Sublist gs:=by
 induction h with
 |r=>exact Sublist.refl _
 |k _ I=>exact I.cons_cons _
 |d _ I=>exact I.cons _
 |a=>exact sublist_append_left _ _
def VU{t:TypeId}{ds:TypeDesc}(h:prog.underlying t=some ds:=by with_reducible first|exact underlying3|exact underlying42|exact underlying40|exact underlying51|exact underlying43|exact underlying98|exact underlying54|exact underlying138|exact underlying49|exact underlying114|exact underlying90|exact underlying173|exact underlying101|exact underlying78|exact underlying91|exact underlying176|exact underlying23|exact underlying177|exact underlying183|exact underlying103|exact underlying4|exact underlying31|exact underlying99|exact underlying119|exact underlying87|exact underlying30|exact underlying141|exact underlying126|exact underlying35|exact underlying227|exact underlying28|exact underlying27|exact underlying222|exact underlying56|exact underlying32|exact underlying33|exact underlying160|exact underlying108|exact underlying172|exact underlying225|exact underlying102|exact underlying190|exact underlying5|exact underlying95|exact underlying94|exact underlying181|exact underlying180|exact underlying112|exact underlying47|exact underlying230|exact underlying22|exact underlying72|exact underlying93|exact underlying85|exact underlying105|exact underlying25):prog.underlying t=some ds:=h
def iiQ{t:TypeId}{m:Nat}(h:(prog.info? t).map (·.size)=some m:=by with_reducible first|exact xB|exact aqg|exact uI|exact asD|exact av1|exact avN|exact aF6|exact Bo|exact aqy|exact avZ|exact aqm|exact avX|exact aqw|exact MI|exact aqs|exact av2|exact avS|exact aqv|exact aqx|exact avO|exact avT|exact anK|exact amq|exact aqt|exact azr|exact aqo|exact avU|exact aql|exact av4|exact amr|exact avL|exact ams|exact VR|exact avK|exact aF7|exact aqj|exact aqi|exact av3|exact avV|exact av0|exact avW|exact avQ|exact aqk|exact avM|exact aqh|exact aqp|exact avP|exact aqr|exact aqn|exact avR|exact aqu|exact aqz|exact avY):(prog.info? t).map (·.size)=some m:=h
section
variable {P:Program}{N:Nat}{l l':Nj}{w w' w0:World}{ops:Array Oper}{o:Oper}{rest:List Oper}{Q:Exit->Act->World->Prop}{d B:Nat}{v p:Value}{fs fs':List J8}{ex:Exit}
section
variable {x y:Operand}{t tt s:TypeId}{ds:TypeDesc}{b k f o0 n c m:Nat}{g:Nat->Nat}{row:Array Value}{A:Option Addr}{e:TypeId}
def zfa(h:o.op=.fieldAddr s x f/\ev l x=some (.pointer (some ⟨b,o0,none⟩)):=by exact⟨E,E⟩)(I:∀(b o:Nat) (w:World),(Instr.fieldAt s (.pointer (some ⟨b,o,none⟩)) f).run P w=.ok (.pointer (some ⟨b,g o,none⟩)) w:=by with_reducible first|exact ajF|exact aez|exact NS|exact aj4|exact apJ|exact ap0|exact ajZ|exact ajV|exact ap5|exact ajG|exact ap1|exact ajU|exact ajM|exact apV|exact ajS|exact akb|exact ajT|exact ajI|exact apQ|exact akj|exact ap2|exact ajJ|exact apR|exact aj1|exact apL|exact ajN|exact apu|exact ap3|exact apM|exact ajH|exact ajO|exact aj8|exact akm|exact apE|exact apZ|exact apv|exact akc|exact aps|exact apt|exact ap7|exact ajQ|exact apK|exact ajY|exact akl|exact apN|exact apP|exact ajW|exact apO|exact aj9|exact apW|exact aqc|exact apU|exact aj2|exact ake|exact aqe|exact akd|exact ap4|exact apX|exact apY|exact apT|exact aj3|exact Bq|exact Bt|exact Bp|exact aj7|exact ajX|exact akf|exact apH|exact apw|exact aqf|exact akn|exact aj0|exact aki|exact afV|exact aqd|exact ajP|exact apF|exact apG|exact apS|exact aj5|exact IU|exact akk|exact apx|exact apA|exact PX|exact PY|exact akh|exact Zn|exact ap8|exact aqa|exact aj6|exact apy|exact apz|exact ajK|exact ajL|exact afW|exact Zo|exact Zm|exact Zl|exact ajR|exact apB|exact apD|exact apC):jr P N l o w (.pointer (some ⟨b,g o0,none⟩)):=Hw h.1 h.2 (I b o0 w)
def zld(h:o.op=.load t x/\ev l x=some (.pointer (some ⟨b,k,none⟩)):=by exact⟨E,E⟩)(I:P.underlying t=some ds:=by exact VU)(J:ds.isRow=false:=by exact E)(S:St B w0 w fs:=by assumption)(M:tq b fs row tt:=by exact fbQ)(O:row[k]? =some v:=by exact E):jr P N l o w v:=by
 obtain⟨i,hi⟩:=M.at_;exact aj h.1 h.2 (rT I J (St.cl i S hi O))
def zlr(h:o.op=.load t x/\ev l x=some (.pointer (some ⟨b,0,none⟩)):=by exact⟨E,E⟩)(I:P.underlying t=some ds:=by exact VU)(J:ds.isRow=true:=by exact E)(S:St B w0 w fs:=by assumption)(M:tq b fs row tt:=by exact fbQ)(O:(P.info? t).map (·.size)=some m:=by exact iiQ)(Z:row.size=m:=by exact E):jr P N l o w (.agg row):=by
 obtain⟨i,hi⟩:=M.at_;exact aj h.1 h.2 (l6 i S hi I J O Z)
def zln(h:o.op=.call {callee:=.builtin .len,args:= #[x],argTypes:= #[t]}/\ev l x=some (.slice A n c):=by exact⟨E,E⟩)(I:P.underlying t=some (.slice e):=by exact VU):jr P N l o w (.int .i64 (n:Int)):=nU (xs:=[x]) (vs:=[_]) h.1 ⟨h.2,trivial⟩ λ_=>aml E I
def znl(h:o.op=.nilCheck x:=by exact E)(I:ev l x=some p:=by exact E)(J:match p with | .pointer (some _)=>True | .func (.func _) _ _=>True | .func (.via ..) _ _=>True|_=>False:=by exact trivial):jr P N l o w p:=avE h I J
section
variable {kd:IntKind}{xo yo:Operand}{x y:Int}
def zRC(x y:Int):Bool->BinOp->Prop
 |true,.lss=>x<y
 |false,.lss=> ¬x<y
 |true,.leq=>x<=y
 |false,.leq=> ¬x<=y
 |true,.gtr=>y<x
 |false,.gtr=> ¬y<x
 |true,.geq=>y<=x
 |false,.geq=> ¬y<=x
 |true,.eql=>x=y
 |false,.eql=> ¬x=y
 |true,.neq=> ¬x=y
 |false,.neq=>x=y
 |_,_=>False
def zcm{q:Bool}{op:BinOp}(I:o.op=.binOp op t xo yo tt/\ev l xo=some (.int kd x)/\ev l yo=some (.int kd y):=by exact⟨E,E,E⟩)(h:zRC x y q op:=by dsimp only[zRC]<;>first|assumption|decide):jr P N l o w (.bool q):=by
 refine bM I.1 I.2.1 I.2.2 ?_
 cases q<;>cases op<;>first|exact h.elim|exact Zf h|exact Zg h|exact ajp h|exact ajq h|exact ajr h|exact ajs h|exact ajt h|exact aju h|exact Zh h|exact Zi h|exact Zj h|exact PO h
def zco{q:Bool}{op:BinOp}(I:o.op=.binOp op t xo yo tt/\ev l xo=some (.int kd x)/\ev l yo=some (.int kd y):=by exact⟨E,E,E⟩)(h:zRC x y q op:=by dsimp only[zRC]<;>omega):jr P N l o w (.bool q):=zcm I h
end
def asG{P:Program}{w:World}{t:TypeId}{xo yo:Operand}{a b:ByteArray}{q:Bool}(h:(a.toList==b.toList)=q):(do eqGuard .eql t xo yo (.string a) (.string b);binOp .eql t (.string a) (.string b):Sem Value).run P w=.ok (.bool q) w:=by
 subst h;simp[binOp,eqGuard_at_string,go_sem,Op.stringOp]
def azu{xo yo:Operand}{a b:ByteArray}(I:o.op=.binOp .eql t xo yo tt/\ev l xo=some (.string a)/\ev l yo=some (.string b):=by exact⟨E,E,E⟩)(h:(a.toList==b.toList)=true:=by decide+kernel):jr P N l o w (.bool true):=bM I.1 I.2.1 I.2.2 (asG h)
def azv{xo yo:Operand}{a b:ByteArray}(I:o.op=.binOp .eql t xo yo tt/\ev l xo=some (.string a)/\ev l yo=some (.string b):=by exact⟨E,E,E⟩)(h:(a.toList==b.toList)=false:=by decide+kernel):jr P N l o w (.bool false):=bM I.1 I.2.1 I.2.2 (asG h)
end
end
abbrev JI (t:TypeId)(v:Value):Prop:= ∀w,(Instr.build t ([]:List (Nat×Value)).toArray).run prog w=.ok v w
def azw:JI 27 (.agg #[D 0,D 0]):=λ_=>kQ
def azx:JI 30 (.agg #[D 0,D 0,D 0,D 0,D 0,D 0,D 0,D 0]):=λ_=>kQ
def azy:JI 35 (.agg #[D 0,.bool false,.bool false,.bool false,.bool false,.bool false,D 0,D 0,D 0,D 0,D 0,D 0,D 0,D 0,.slice none 0 0,.slice none 0 0,.slice none 0 0,D 0]):=λ_=>kQ
def azz:JI 42 (.agg #[D 0,D 0,D 0,D 0,D 0,.slice none 0 0]):=λ_=>kQ
def azA:JI 180 (.agg #[D 0,.bool false,.bool false,.bool false,.bool false,.bool false,.bool false,.bool false,.bool false]):=λ_=>kQ
def azB:JI 49 (.agg #[D 0,D 0,D 0,D 0,D 0,D 0]):=λ_=>kQ
def azC:JI 51 (.agg #[D 0,D 0,D 0,D 0,D 0,D 0,D 0,D 0,D 0,D 0,D 0]):=λ_=>kQ
def azD:JI 54 (.agg #[D 0,D 0,D 0,D 0]):=λ_=>kQ
def azE:JI 56 (.agg #[D 0,D 0,D 0,D 0,D 0,D 0,D 0]):=λ_=>kQ
def azF:JI 222 (.agg #[D 0,D 0]):=λ_=>kQ
def azG:JI 225 (.agg #[D 0,D 0,D 0,D 0]):=λ_=>kQ
def av8:JI 93 (.agg #[D 0,D 0]):=λ_=>kQ
def av9:JI 101 (.agg #[.slice none 0 0,D 0]):=λ_=>kQ
def awc:JI 105 (.agg #[D 0,.bool false,.slice none 0 0,D 0,.slice none 0 0,D 0,D 0,D 0,D 0,D 0,D 0,D 0,D 0,.bool false,.bool false,.bool false,.bool false,.slice none 0 0,.nilFunc,D 0]):=λ_=>kQ
def awd:JI 114 (.agg #[.pointer none,D 0]):=λ_=>kQ
def awe:JI 119 (.agg #[D 0,D 0,D 0,D 0,D 0,D 0,D 0,D 0,D 0,D 0,D 0,D 0,D 0,.slice none 0 0,.bool false,D 0,D 0,D 0,D 0,D 0,D 0,D 0,D 0]):=λ_=>kQ
def awf:JI 138 (.agg #[D 0,D 0,D 0,D 0,D 0,D 0,D 0,D 0,D 0,D 0]):=λ_=>kQ
section
variable {P:Program}{N:Nat}{l l':Nj}{w w' w0:World}{ops:Array Oper}{o:Oper}{rest:List Oper}{Q:Exit->Act->World->Prop}{d B:Nat}{v p:Value}{fs fs':List J8}{ex:Exit}
section
variable {x y:Operand}{t tt s:TypeId}{ds:TypeDesc}{b k f o0 n c m:Nat}{g:Nat->Nat}{row:Array Value}{A:Option Addr}{e:TypeId}
def ybz{row:Array Value}(h:o.op=.build t ([]:List (Nat×Operand)).toArray:=by exact E)(I:∀w,(Instr.build t ([]:List (Nat×Value)).toArray).run P w=.ok (.agg row) w:=by with_reducible first|exact azw|exact azx|exact azy|exact azz|exact azA|exact azB|exact azC|exact azD|exact azE|exact azF|exact azG|exact av8|exact av9|exact awc|exact awd|exact awe|exact awf):jr P N l o w (.agg row):=Ed (vs:=[]) h trivial (I w)
def y0Q(h:jr P N l o w v:=by first|exact ym|exact ya|exact yx|exact yno|exact znl|exact zfa|exact zld|exact zlr|exact zln|exact ypT|exact ypF|exact ybz|exact azu|exact azv|exact zcm (q:=true)|exact zcm (q:=false)|exact zco (q:=true)|exact zco (q:=false)):jr P N l o w v:=h
end
inductive wE:Nat->List Bool->Nat->List Bool->Prop
 |z {l:List Bool}:wE 0 (false::l) 0 (true::l)
 |t {k i:Nat} {l l':List Bool}:wE k l i l'->wE k (true::l) (i+1) (true::l')
 |f {k i:Nat} {l l':List Bool}:wE k l i l'->wE (k+1) (false::l) (i+1) (false::l')
def nfQ{k i:Nat}{l l':List Bool}(h:wE k l i l':=by repeat' first|exact wE.z|apply wE.t|apply wE.f):wE k l i l':=h
def wE.eq{k i:Nat}{l l':List Bool}(h:wE k l i l'):l.toArray.setIfInBounds i true=l'.toArray:=by
 suffices J:l.set i true=l' by simp[J]
 induction h with
 |z=>rfl
 |t _ I=>rw[set_cons_succ,I]
 |f _ I=>rw[set_cons_succ,I]
inductive zX:List Bool->Nat->List Bool->Prop
 |z {b:Bool} {l:List Bool}:zX (b::l) 0 (true::l)
 |s {b:Bool} {i:Nat} {l l':List Bool}:zX l i l'->zX (b::l) (i+1) (b::l')
def slQ{i:Nat}{l l':List Bool}(h:zX l i l':=by repeat' first|exact zX.z|apply zX.s):zX l i l':=h
def zX.eq{i:Nat}{l l':List Bool}(h:zX l i l'):l.toArray.setIfInBounds i true=l'.toArray:=by
 suffices I:l.set i true=l' by simp[I]
 induction h with
 |z=>rfl
 |s _ J=>rw[set_cons_succ,J]
def Step(A B:Prop):Prop:=B->A
section
variable {C:World->Prop}{Qa:Act->Prop}{j:Nat}{t:Nat}{u:Value}{b:Bool}
def q1Q(hw:gN o d N:=by exact⟨E,E,E⟩)(I:jr P N l o w v:=by exact y0Q):Step (wL P N ops Q (o::rest) l w) (wL P N ops Q rest ((d,v)::l) w):=λh=>Fx (wn hw.1) hw.2.1 hw.2.2 I h
def q2Q(J:gS o ops j b t:=by exact⟨E,E⟩)(hv:lk l t=some u:=by exact E)(I:gY u b true o d N:=by exact⟨E,E,E⟩)(M:jr P N l o w v:=by exact y0Q):Step (wL P N ops Q (o::rest) l w) (wL P N ops Q rest ((d,v)::l) w):=λh=>Fx (wg J.1 J.2 hv I.1) I.2.1 I.2.2 M h
def q3Q(hw:gN o d N:=by exact⟨E,E,E⟩)(I:∀w,C w->jr P N l o w v:=by(intro w S;exact y0Q)):Step (wU P N ops C Qa (o::rest) l) (wU P N ops C Qa rest ((d,v)::l)):=λh=>NK (wn hw.1) hw.2.1 hw.2.2 I h
def q4Q(J:gS o ops j b t:=by exact⟨E,E⟩)(hv:lk l t=some u:=by exact E)(I:gY u b true o d N:=by exact⟨E,E,E⟩)(M:∀w,C w->jr P N l o w v:=by(intro w S;exact y0Q)):Step (wU P N ops C Qa (o::rest) l) (wU P N ops C Qa rest ((d,v)::l)):=λh=>NK (wg J.1 J.2 hv I.1) I.2.1 I.2.2 M h
def St.fit{gs:List J8}(S:St B w0 w gs)(h:Db fs gs:=by repeat' first|exact Db.r|exact Db.a|apply Db.k|apply Db.d):St B w0 w fs:=S.sub h.sub
def cwQ{G:Prop}(h:G:=by first|assumption|exact St.fit ‹_›):G:=h
abbrev gR (ops:Array Oper)(ls:List Bool)(i:Nat):Prop:=Region.noSelect ops=true/\Region.free .any ops ls.toArray i=true/\(Region.ready .any ops ls.toArray).contains i=true
section
variable {n m i:Nat}{listed listed':Array Bool}
def Zt{ls ls':List Bool}(q:Nat)(I:wE q ls i ls':=by exact nfQ)(hi:ops[i]? =some o:=by exact E)(hw:gN o d N:=by exact⟨E,E,E⟩)(J:∀w,C w->jr P N l o w v:=by(intro w S;exact y0Q))(M:C w:=by exact cwQ)(hs:gR ops ls i:=by exact⟨kQ,kQ,kQ⟩):Step (wA P N ops Q C (n+1) ls.toArray l w) (wA P N ops Q C n ls'.toArray ((d,v)::l) w):=λh=>Bg hi hs.1 hs.2.1 hs.2.2 M I.eq (wn hw.1) hw.2.1 hw.2.2 J h
def Zu{ls ls':List Bool}(q:Nat)(O:wE q ls i ls':=by exact nfQ)(hi:ops[i]? =some o:=by exact E)(hw:gN o d N:=by exact⟨E,E,E⟩)(Z:∀w,C w->jr P N l o w v:=by(intro w S;exact y0Q))(hS:C w:=by exact cwQ)(hs:gR ops ls i:=by exact⟨kQ,kQ,kQ⟩)(I:ls.toArray.getD n true=false:=by exact E)(J:xP ops n i=true:=by kernel_rfl)(M:beq n i=false:=by exact E):Step (wG P N ops Q C n (m+1) ls.toArray l w) (wG P N ops Q C n m ls'.toArray ((d,v)::l) w):=λh=>Ef hi hs.1 hs.2.1 hs.2.2 I J M hS O.eq (wn hw.1) hw.2.1 hw.2.2 Z h
def Zv{ls ls':List Bool}(q:Nat)(M:wE q ls i ls':=by exact nfQ)(hi:ops[i]? =some o:=by exact E)(J:gS o ops j b t:=by exact⟨E,E⟩)(hv:lk l t=some u:=by exact E)(I:gY u b true o d N:=by exact⟨E,E,E⟩)(O:∀w,C w->jr P N l o w v:=by(intro w S;exact y0Q))(Z:C w:=by exact cwQ)(hs:gR ops ls i:=by exact⟨kQ,kQ,kQ⟩):Step (wA P N ops Q C (n+1) ls.toArray l w) (wA P N ops Q C n ls'.toArray ((d,v)::l) w):=λh=>Bg hi hs.1 hs.2.1 hs.2.2 Z M.eq (wg J.1 J.2 hv I.1) I.2.1 I.2.2 O h
def Zw{ls ls':List Bool}(q:Nat)(M:wE q ls i ls':=by exact nfQ)(hi:ops[i]? =some o:=by exact E)(J:gS o ops j b t:=by exact⟨E,E⟩)(hv:lk l t=some u:=by exact E)(I:gY u b false o d N:=by exact⟨E,E,E⟩)(O:C w:=by exact cwQ)(hs:gR ops ls i:=by exact⟨kQ,kQ,kQ⟩):Step (wA P N ops Q C (n+1) ls.toArray l w) (wA P N ops Q C n ls'.toArray ((d,undef)::l) w):=λh=>Bh hi hs.1 hs.2.1 hs.2.2 O M.eq (wg J.1 J.2 hv I.1) I.2.1 I.2.2 h
def Zx{ls ls':List Bool}(q:Nat)(hl:wE q ls i ls':=by exact nfQ)(hi:ops[i]? =some o:=by exact E)(Z:gS o ops j b t:=by exact⟨E,E⟩)(hv:lk l t=some u:=by exact E)(I:gY u b true o d N:=by exact⟨E,E,E⟩)(hy:∀w,C w->jr P N l o w v:=by(intro w S;exact y0Q))(hS:C w:=by exact cwQ)(hs:gR ops ls i:=by exact⟨kQ,kQ,kQ⟩)(J:ls.toArray.getD n true=false:=by exact E)(M:xP ops n i=true:=by kernel_rfl)(O:beq n i=false:=by exact E):Step (wG P N ops Q C n (m+1) ls.toArray l w) (wG P N ops Q C n m ls'.toArray ((d,v)::l) w):=λh=>Ef hi hs.1 hs.2.1 hs.2.2 J M O hS hl.eq (wg Z.1 Z.2 hv I.1) I.2.1 I.2.2 hy h
def IV{ls ls':List Bool}(q:Nat)(hl:wE q ls i ls':=by exact nfQ)(hi:ops[i]? =some o:=by exact E)(Z:gS o ops j b t:=by exact⟨E,E⟩)(hv:lk l t=some u:=by exact E)(I:gY u b false o d N:=by exact⟨E,E,E⟩)(hS:C w:=by exact cwQ)(hs:gR ops ls i:=by exact⟨kQ,kQ,kQ⟩)(J:ls.toArray.getD n true=false:=by exact E)(M:xP ops n i=true:=by kernel_rfl)(O:beq n i=false:=by exact E):Step (wG P N ops Q C n (m+1) ls.toArray l w) (wG P N ops Q C n m ls'.toArray ((d,undef)::l) w):=λh=>ajB hi hs.1 hs.2.1 hs.2.2 J M O hS hl.eq (wg Z.1 Z.2 hv I.1) I.2.1 I.2.2 h
end
end
section
variable {fn:Func}{R:Ending->World->Prop}{i j k:Nat}{v1 v2 v3:Value}{ty t tt:TypeId}{b m:Nat}{row:Array Value}{ds:TypeDesc}
def p0Q(h:fn.results=([]:List ResultVar).toArray:=by exact E):Step (wQ N (bodyPost P fn R) .ret l w) (R (.returned (qH [])) w):=λI=>dW (vs:=[]) h trivial I
def azH(h:fn.results=([]:List ResultVar).toArray:=by exact E):Step (wQ N (bodyPost P fn R) .normal l w) (R (.returned (qH [])) w):=λI=>NC (vs:=[]) h trivial I
def p1Q(h:fn.results=[ResultVar.tmp i].toArray:=by exact E)(h1:lk l i=some v1:=by exact E):Step (wQ N (bodyPost P fn R) .ret l w) (R (.returned (qH [v1])) w):=λI=>dW (vs:=[v1]) h ⟨h1,trivial⟩ I
def p2Q(h:fn.results=[ResultVar.tmp i,ResultVar.tmp j].toArray:=by exact E)(h1:lk l i=some v1:=by exact E)(I:lk l j=some v2:=by exact E):Step (wQ N (bodyPost P fn R) .ret l w) (R (.returned (qH [v1,v2])) w):=λJ=>dW (vs:=[v1,v2]) h ⟨h1,I,trivial⟩ J
def p3Q(I:fn.results=[ResultVar.tmp i,ResultVar.tmp j,ResultVar.tmp k].toArray:=by exact E)(h1:lk l i=some v1:=by exact E)(h:lk l j=some v2/\lk l k=some v3:=by exact⟨E,E⟩):Step (wQ N (bodyPost P fn R) .ret l w) (R (.returned (qH [v1,v2,v3])) w):=λJ=>dW (vs:=[v1,v2,v3]) I ⟨h1,h.1,h.2,trivial⟩ J
def azI(h:fn.results=[ResultVar.cell i ty].toArray/\lk l i=some (.pointer (some ⟨b,0,none⟩)):=by exact⟨E,E⟩)(S:St B w0 w fs:=by assumption)(I:tq b fs row tt:=by exact fbQ)(J:P.underlying ty=some ds:=by exact VU)(M:ds.isRow=true:=by exact E)(O:(P.info? ty).map (·.size)=some m:=by exact iiQ)(Z:row.size=m:=by exact E):Step (wQ N (bodyPost P fn R) .ret l w) (R (.returned (qH [.agg row])) w):=λhR=>by
 obtain⟨q,hq⟩:=I.at_;exact dW (vs:=[.agg row]) h.1 ⟨⟨_,h.2,fB q S hq J M (by rw[Z];exact O)⟩,trivial⟩ hR
def azJ(h:fn.results=[ResultVar.cell i ty,ResultVar.tmp j].toArray:=by exact E)(h1:lk l j=some v1:=by exact E)(I:lk l i=some (.pointer (some ⟨b,0,none⟩)):=by exact E)(S:St B w0 w fs:=by assumption)(J:tq b fs row tt:=by exact fbQ)(M:P.underlying ty=some ds:=by exact VU)(O:ds.isRow=true:=by exact E)(Z:(P.info? ty).map (·.size)=some m:=by exact iiQ)(hm:row.size=m:=by exact E):Step (wQ N (bodyPost P fn R) .ret l w) (R (.returned (qH [.agg row,v1])) w):=λhR=>by
 obtain⟨q,hq⟩:=J.at_;exact dW (vs:=[.agg row,v1]) h ⟨⟨_,I,fB q S hq M O (by rw[hm];exact Z)⟩,h1,trivial⟩ hR
def azK(I:fn.results=[ResultVar.cell i ty,ResultVar.tmp j,ResultVar.tmp k].toArray:=by exact E)(h1:lk l j=some v1:=by exact E)(h:lk l k=some v2/\lk l i=some (.pointer (some ⟨b,0,none⟩)):=by exact⟨E,E⟩)(S:St B w0 w fs:=by assumption)(J:tq b fs row tt:=by exact fbQ)(M:P.underlying ty=some ds:=by exact VU)(O:ds.isRow=true:=by exact E)(Z:(P.info? ty).map (·.size)=some m:=by exact iiQ)(hm:row.size=m:=by exact E):Step (wQ N (bodyPost P fn R) .ret l w) (R (.returned (qH [.agg row,v1,v2])) w):=λhR=>by
 obtain⟨q,hq⟩:=J.at_;exact dW (vs:=[.agg row,v1,v2]) I ⟨⟨_,h.2,fB q S hq M O (by rw[hm];exact Z)⟩,h1,h.1,trivial⟩ hR
def azL{r:Nat}(I:fn.results=[ResultVar.cell i ty,ResultVar.tmp j,ResultVar.tmp k,ResultVar.tmp r].toArray:=by exact E)(h1:lk l j=some v1:=by exact E)(h:lk l k=some v2/\lk l r=some v3/\lk l i=some (.pointer (some ⟨b,0,none⟩)):=by exact⟨E,E,E⟩)(S:St B w0 w fs:=by assumption)(J:tq b fs row tt:=by exact fbQ)(M:P.underlying ty=some ds:=by exact VU)(O:ds.isRow=true:=by exact E)(Z:(P.info? ty).map (·.size)=some m:=by exact iiQ)(hm:row.size=m:=by exact E):Step (wQ N (bodyPost P fn R) .ret l w) (R (.returned (qH [.agg row,v1,v2,v3])) w):=λhR=>by
 obtain⟨q,hq⟩:=J.at_;exact dW (vs:=[.agg row,v1,v2,v3]) I ⟨⟨_,h.2.2,fB q S hq M O (by rw[hm];exact Z)⟩,h1,h.1,h.2.1,trivial⟩ hR
end
def gLQ{B:Prop}(h:Step (wL P N ops Q rest l w) B):Step (wL P N ops Q rest l w) B:=h
def gQQ{B:Prop}(h:Step (wQ N Q ex l w) B):Step (wQ N Q ex l w) B:=h
def gUQ{B:Prop}{C:World->Prop}{Qa:Act->Prop}(h:Step (wU P N ops C Qa rest l) B):Step (wU P N ops C Qa rest l) B:=h
def gAQ{B:Prop}{C:World->Prop}{n:Nat}{ls:List Bool}(h:Step (wA P N ops Q C (n+1) ls.toArray l w) B):Step (wA P N ops Q C (n+1) ls.toArray l w) B:=h
def gGQ{B:Prop}{C:World->Prop}{n m:Nat}{ls:List Bool}(h:Step (wG P N ops Q C n (m+1) ls.toArray l w) B):Step (wG P N ops Q C n (m+1) ls.toArray l w) B:=h
section
variable {K:Act->World->Prop}{x y:Code}{id:Nat}{os:List Oper}{c:Operand}{C:World->Prop}{Qa:Act->Prop}{j t n:Nat}{u:Value}{b:Bool}{listed:Array Bool}{A B:Prop}
def s1Q:Step (wQ N (Exit.then (y.wp P Q) Q) .normal l w) (wC P N y Q l w):=iw
def s2Q:Step (wC P N (.seq x y) Q l w) (wC P N x (Exit.then (y.wp P Q) Q) l w):=aQ
def s3Q:Step (wC P N (.region id os.toArray false) Q l w) (wL P N os.toArray Q os l w):=aC
def s4Q:Step (wC P N .skip Q l w) (wQ N Q .normal l w):=qQ
def s5Q:Step (wC P N (.block id x) Q l w) (wC P N x (Exit.inBlock id Q) l w):=EF
def s6Q:Step (wQ N (Exit.inBlock id Q) .normal l w) (wQ N Q .normal l w):=iJ
def s7Q:Step (wC P N .ret Q l w) (wQ N Q .ret l w):=oH
def s8Q:Step (wQ N (Exit.then K Q) .ret l w) (wQ N Q .ret l w):=iB
def s9Q:Step (wQ N (Exit.inBlock id Q) .ret l w) (wQ N Q .ret l w):=XO
def azM:Step (wC P N (.exit id) Q l w) (wQ N Q (.exit id) l w):=ajn
def azN:Step (wQ N (Exit.then K Q) (.exit id) l w) (wQ N Q (.exit id) l w):=adO
def azO:Step (wQ N (Exit.inBlock id Q) (.exit id) l w) (wQ N Q .normal l w):=UA
def azP:Step (wL P N ops Q [] l w) (wQ N Q .normal l w):=aem
def azQ(h:ev l c=some (.bool true)):Step (wC P N (.cond c x y) Q l w) (wC P N x Q l w):=mo h
def azR(h:ev l c=some (.bool false)):Step (wC P N (.cond c x y) Q l w) (wC P N y Q l w):=mq h
def azS(I:gS o ops j b t:=by exact⟨E,E⟩)(hv:lk l t=some u:=by exact E)(h:gY u b false o d N:=by exact⟨E,E,E⟩):Step (wL P N ops Q (o::rest) l w) (wL P N ops Q rest ((d,undef)::l) w):=Ze (wg I.1 I.2 hv h.1) h.2.1 h.2.2
def azT(I:gS o ops j b t:=by exact⟨E,E⟩)(hv:lk l t=some u:=by exact E)(h:gY u b false o d N:=by exact⟨E,E,E⟩):Step (wU P N ops C Qa (o::rest) l) (wU P N ops C Qa rest ((d,undef)::l)):=ajy (wg I.1 I.2 hv h.1) h.2.1 h.2.2
def azU(h:Region.ready .any ops listed=[]):Step (wA P N ops Q C n listed l w) (wQ N Q .normal l w):=ajz h
def asH{G:Prop}(h:G:=by exact cwQ):Step (G/\A) A:=And.intro h
end
inductive Steps:Nat->Prop->Prop->Prop
 |z {A:Prop}:Steps 0 A A
 |s {n:Nat} {A B C:Prop}:Step A B->Steps n B C->Steps (n+1) A C
def Steps.go{n:Nat}{A B:Prop}(h:Steps n A B):B->A:=by
 induction h with
 |z=>exact id
 |s h _ I=>exact λb=>h (I b)
def sQ{A B:Prop}(hs:Step A B:=by first|with_reducible exact azP|((with_reducible apply gLQ);first|exact q1Q|exact q2Q|exact azS)|with_reducible exact s1Q|with_reducible exact s2Q|with_reducible exact s3Q|with_reducible exact s4Q|with_reducible exact s5Q|with_reducible exact s6Q|with_reducible exact s7Q|with_reducible exact s8Q|with_reducible exact s9Q|with_reducible exact azM|with_reducible exact azN|with_reducible exact azO|((with_reducible refine azQ ?_);exact E)|((with_reducible refine azR ?_);exact E)|((with_reducible apply gUQ);first|exact q3Q|exact q4Q|exact azT)|((with_reducible apply gQQ);first|exact p1Q|exact azJ|exact p2Q|exact azI|exact p3Q|exact azK|exact p0Q|exact azH|exact azL)):Step A B:=hs
def zQ{A B:Prop}(h:B)(hs:Step A B:=by exact sQ):A:=hs h
def zN{A B:Prop}(n:Nat)(h:B)(hs:Steps n A B:=by repeat' first|exact Steps.z|apply Steps.s|exact sQ):A:=hs.go h
def sQa{A B:Prop}(hs:Step A B:=by first|((with_reducible apply gAQ);first|exact Zt 0|exact Zv 0|exact Zw 0|exact Zt 1|exact Zv 1|exact Zw 1|exact Zt 2|exact Zv 2|exact Zw 2|exact Zt 3|exact Zv 3|exact Zw 3|exact Zt 4|exact Zv 4|exact Zw 4|exact Zt 5|exact Zv 5|exact Zw 5|exact Zt 6|exact Zv 6|exact Zw 6|exact Zt 7|exact Zv 7|exact Zw 7|exact Zt 8|exact Zv 8|exact Zw 8|exact Zt 9|exact Zv 9|exact Zw 9)|((with_reducible apply azU);kernel_rfl)|exact asH):Step A B:=hs
def dG{A B:Prop}(h:B)(hs:Step A B:=by exact sQa):A:=hs h
def aL{A B:Prop}(n:Nat)(h:B)(hs:Steps n A B:=by repeat' first|exact Steps.z|apply Steps.s|exact sQa):A:=hs.go h
def gW{A B:Prop}(h:B)(hs:Step A B:=by first|((with_reducible apply gGQ);first|exact Zu 0|exact Zx 0|exact IV 0|exact Zu 1|exact Zx 1|exact IV 1|exact Zu 2|exact Zx 2|exact IV 2|exact Zu 3|exact Zx 3|exact IV 3|exact Zu 4|exact Zx 4|exact IV 4|exact Zu 5|exact Zx 5|exact IV 5|exact Zu 6|exact Zx 6|exact IV 6|exact Zu 7|exact Zx 7|exact IV 7|exact Zu 8|exact Zx 8|exact IV 8|exact Zu 9|exact Zx 9|exact IV 9)|exact asH):A:=hs h
section
variable {t:TypeId}{row:Array Value}
def uJ(P:Program)(t:TypeId)(row:Array Value):Prop:= ∃z,(∀w,(zeroValue t).run P w=.ok z w)/\z.cells=row
def gD(S:St B w0 w fs)(I:uJ P t row)(h:∀b w',St B w0 w' (.Mg b row t::fs)->wL P N ops Q rest ((d,.pointer (some ⟨b,0,none⟩))::l) w')(hw:gM o d N (o.op=.alloc t):=by exact⟨E,E,E,E⟩):wL P N ops Q (o::rest) l w:=by
 obtain⟨z,h1,J⟩:=I;exact mV (V:=λb=>.pointer (some ⟨b,0,none⟩)) S (wn hw.1) hw.2.1 hw.2.2.1 (jd hw.2.2.2 (h1 w) J) h
def lW{C:World->Prop}{n:Nat}{ls ls':List Bool}(j:Nat)(I:ops[j]? =some o)(S:St B w0 w fs)(J:uJ P t row)(h:∀b w',St B w0 w' (.Mg b row t::fs)->C w'/\wA P N ops Q C n ls'.toArray ((d,.pointer (some ⟨b,0,none⟩))::l) w')(M:zX ls j ls':=by exact slQ)(hw:gM o d N (o.op=.alloc t):=by exact⟨E,E,E,E⟩):wK P N ops Q C n j ls.toArray l w:=by
 obtain⟨z,h1,O⟩:=J;exact kg (V:=λb=>.pointer (some ⟨b,0,none⟩)) I M.eq S (wn hw.1) hw.2.1 hw.2.2.1 (jd hw.2.2.2 (h1 w) O) h
end
def zr3:uJ prog 3 #[D 0]:=⟨_,zeroValue3,E⟩
def Gy:uJ prog 27 #[D 0,D 0]:=⟨_,zeroValue27,E⟩
def ah6:uJ prog 30 #[D 0,D 0,D 0,D 0,D 0,D 0,D 0,D 0]:=⟨_,zeroValue30,E⟩
def ah7:uJ prog 35 #[D 0,.bool false,.bool false,.bool false,.bool false,.bool false,D 0,D 0,D 0,D 0,D 0,D 0,D 0,D 0,.slice none 0 0,.slice none 0 0,.slice none 0 0,D 0]:=⟨_,zeroValue35,E⟩
def fZ:uJ prog 42 #[D 0,D 0,D 0,D 0,D 0,.slice none 0 0]:=⟨_,zeroValue42,E⟩
def anM:uJ prog 180 #[D 0,.bool false,.bool false,.bool false,.bool false,.bool false,.bool false,.bool false,.bool false]:=⟨_,zeroValue180,E⟩
def aa3:uJ prog 49 #[D 0,D 0,D 0,D 0,D 0,D 0]:=⟨_,zeroValue49,E⟩
def ah8:uJ prog 51 #[D 0,D 0,D 0,D 0,D 0,D 0,D 0,D 0,D 0,D 0,D 0]:=⟨_,zeroValue51,E⟩
def tK:uJ prog 54 #[D 0,D 0,D 0,D 0]:=⟨_,zeroValue54,E⟩
def azV:uJ prog 56 #[D 0,D 0,D 0,D 0,D 0,D 0,D 0]:=⟨_,zeroValue56,E⟩
def azW:uJ prog 222 #[D 0,D 0]:=⟨_,zeroValue222,E⟩
def asI:uJ prog 225 #[D 0,D 0,D 0,D 0]:=⟨_,zeroValue225,E⟩
def zn:uJ prog 101 #[.slice none 0 0,D 0]:=⟨_,zeroValue101,E⟩
def awg:uJ prog 105 #[D 0,.bool false,.slice none 0 0,D 0,.slice none 0 0,D 0,D 0,D 0,D 0,D 0,D 0,D 0,D 0,.bool false,.bool false,.bool false,.bool false,.slice none 0 0,.nilFunc,D 0]:=⟨_,zeroValue105,E⟩
def FK:uJ prog 114 #[.pointer none,D 0]:=⟨_,zeroValue114,E⟩
def ad8:uJ prog 119 #[D 0,D 0,D 0,D 0,D 0,D 0,D 0,D 0,D 0,D 0,D 0,D 0,D 0,.slice none 0 0,.bool false,D 0,D 0,D 0,D 0,D 0,D 0,D 0,D 0]:=⟨_,zeroValue119,E⟩
def xC:uJ prog 138 #[D 0,D 0,D 0,D 0,D 0,D 0,D 0,D 0,D 0,D 0]:=⟨_,zeroValue138,E⟩
def awh:uJ prog 190 #[.nilFunc]:=⟨_,zeroValue190,E⟩
def mF{a b:Nat}(h:a<=b:=by first|assumption|exact zero_le _|(dsimp only;omega)|(simp only[length_append,length_cons,length_nil,length_drop,length_take]at*;omega)):a<=b:=h
inductive Out:List J8->Nat->J8->List J8->Prop
 |z {f:J8} {fs:List J8}:Out (f::fs) 0 f fs
 |s {f g:J8} {fs gs:List J8} {i:Nat}:Out fs i f gs->Out (g::fs) (i+1) f (g::gs)
def Out.eq{fs gs:List J8}{i:Nat}{f:J8}(h:Out fs i f gs):fs[i]? =some f/\fs.eraseIdx i=gs:=by
 induction h with
 |z=>exact⟨E,E⟩
 |s _ I=>exact⟨by simpa using I.1,by rw[eraseIdx_cons_succ,I.2]⟩
inductive Brs:List J8->List Nat->List J8->Prop
 |z {fs:List J8}:Brs fs [] fs
 |s {fs gs hs:List J8} {i:Nat} {is:List Nat} {f:J8}:Out fs i f gs->Brs (f::gs) is hs->Brs fs (i::is) hs
def St.eH{gs:List J8}(S:St B w0 w fs)(is:List Nat)(h:Brs fs is gs:=by repeat' first|exact Brs.z|exact Out.z|apply Brs.s|apply Out.s):St B w0 w gs:=by
 induction h with
 |z=>exact S
 |s h _ I=>
  obtain⟨h1,J⟩:=h.eq;have:=S.bring _ h1;rw[J]at this;exact I this
inductive Zy:List J8->List Nat->List J8->Prop
 |z {fs:List J8}:Zy fs [] fs
 |s {fs gs hs:List J8} {i:Nat} {is:List Nat} {f:J8}:Out fs i f gs->Zy gs is hs->Zy fs (i::is) hs
def dlQ{fs gs:List J8}{is:List Nat}(h:Zy fs is gs:=by repeat' first|exact Zy.z|exact Out.z|apply Zy.s|apply Out.s):Zy fs is gs:=h
def St.aO{gs:List J8}(S:St B w0 w fs)(is:List Nat)(h:Zy fs is gs:=by exact dlQ):St B w0 w gs:=by
 induction h with
 |z=>exact S
 |s h _ I=>
  refine I ?_;rw[<-h.eq.2];exact S.del _
section
variable {id n m:Nat}{os:List Oper}{gs:List J8}
def aK(n:Nat)(S:St B w0 w.drew gs)(is:List Nat)(h:wA P N os.toArray Q (λw'=>St B w0 w' fs) n (replicate n false).toArray l w.drew)(J:Zy gs is fs:=by exact dlQ)(I:P.follows .mixedOrders=true:=by exact mixed)(hn:os.length=n:=by exact E):wC P N (.region id os.toArray true) Q l w:=IQ I hn iQ h
def fM(m n:Nat)(S:St B w0 w.drew gs)(is:List Nat)(h:wG P N os.toArray Q (λw'=>St B w0 w' fs) n m (replicate m false).toArray l w.drew)(J:Zy gs is fs:=by exact dlQ)(I:P.follows .mixedOrders=true:=by exact mixed)(hn:os.length=m:=by exact E):wC P N (.region id os.toArray true) Q l w:=Bj n I hn iQ h
end
inductive Dc:List Value->Nat->List Value->List Value->Prop
 |n {l:List Value}:Dc l 0 [] l
 |c {x y:Value} {l cs l':List Value}:Dc l 0 cs l'->Dc (x::l) 0 (y::cs) (y::l')
 |s {x:Value} {i:Nat} {l cs l':List Value}:Dc l i cs l'->Dc (x::l) (i+1) cs (x::l')
def Dc.spec{l cs l':List Value}{i:Nat}(h:Dc l i cs l'):i+cs.length<=l.length/\l.take i++cs++l.drop (i+cs.length)=l':=by
 induction h with
 |n=>simp
 |c _ J=>obtain⟨h1,I⟩:=J;simp only[take_zero,nil_append,Nat.zero_add,length_cons,cons_append,drop_succ_cons]at h1 I⊢;exact⟨by omega,by rw[I]⟩
 | @s x i l cs l' _ J=>obtain⟨h1,I⟩:=J;refine⟨by simp;omega,?_⟩;rw[show i+1+cs.length=(i+cs.length)+1 by omega,take_succ_cons,drop_succ_cons,cons_append,cons_append,I]
def Dc.eq{l cs l':List Value}{i:Nat}(h:Dc l i cs l'):dn l.toArray i cs=l'.toArray:=by
 obtain⟨h1,I⟩:=h.spec;apply Array.toList_inj.1;rw[iC _ _ _ (by simpa using h1)];simpa using I
section
variable {b m off:Nat}{rw_ rw':List Value}{cs:Array Value}{t ty:TypeId}{x y:Operand}
def H7(i:Nat)(S:St B w0 w fs)(I:(P.info? ty).map (·.size)=some m)(h:∀w',St B w0 w' fs'->wL P N ops Q rest l w')(hw:o.guard=none/\o.dst=none/\o.op=.store ty x y/\ev l x=some (.pointer (some ⟨b,off,none⟩))/\ev l y=some v:=by exact⟨E,E,E,E,E⟩)(hi:fs[i]? =some (.Mg b rw_.toArray t):=by exact E)(hv:v.cells=cs:=by exact E)(J:cs.size=m:=by exact E)(h1:∀u∈cs.toList,u.oneCell'=true:=by exact bY E)(M:ble (off+m) rw_.toArray.size=true:=by exact E)(hs:Dc rw_ off cs.toList rw':=by repeat' first|exact Dc.n|apply Dc.c|apply Dc.s)(O:iT (.Mg b rw'.toArray t) fs i fs':=by repeat' first|exact iT.z|apply iT.s):wL P N ops Q (o::rest) l w:=Fz i S (wn hw.1) hw.2.1 hw.2.2.1 hw.2.2.2.1 hw.2.2.2.2 hi hv I J h1 (le_of_ble_eq_true M) hs.eq O.eq h
end
section
variable {C:World->Prop}{n:Nat}{ls ls':List Bool}{row:Array Value}{t tt:TypeId}{x:Operand}
def iU(S:St B w0 w fs)(h:∀b w',St B w0 w' (.Mg b row t::fs)->wL P N ops Q rest ((d,.pointer (some ⟨b,0,none⟩))::l) w')(hw:gM o d N (o.op=.box t x/\ev l x=some (.agg row)):=by exact⟨E,E,E,E,E⟩):wL P N ops Q (o::rest) l w:=mV (V:=λb=>.pointer (some ⟨b,0,none⟩)) S (wn hw.1) hw.2.1 hw.2.2.1 (ad1 hw.2.2.2.1 hw.2.2.2.2 E) h
def VW(S:St B w0 w fs)(h:∀b w',St B w0 w' (.Mg b #[v] t::fs)->wL P N ops Q rest ((d,.pointer (some ⟨b,0,none⟩))::l) w')(hw:gM o d N (o.op=.box t x/\ev l x=some v):=by exact⟨E,E,E,E,E⟩)(hv:v.cells= #[v]:=by exact E):wL P N ops Q (o::rest) l w:=mV (V:=λb=>.pointer (some ⟨b,0,none⟩)) S (wn hw.1) hw.2.1 hw.2.2.1 (ad1 hw.2.2.2.1 hw.2.2.2.2 hv) h
def SG(S:St B w0 w fs)(h:∀b w',St B w0 w' (.Mg b row tt::fs)->wL P N ops Q rest ((d,.slice (some ⟨b,0,none⟩) 1 1)::l) w')(hw:gM o d N (o.op=.buildSlice t 1 [(0,x)].toArray/\ev l x=some (.agg row)):=by exact⟨E,E,E,E,E⟩)(J:P.underlying t=some (.slice tt):=by exact VU)(I:(Instr.buildSlice t 1 [(0,Value.agg row)].toArray).run P w=.ok (.slice (some ⟨w.heap.size,0,none⟩) 1 1) (w.alloc (.cells row tt)):=by kernel_rfl):wL P N ops Q (o::rest) l w:=mV (V:=λb=>.slice (some ⟨b,0,none⟩) 1 1) S (wn hw.1) hw.2.1 hw.2.2.1 (aV (vs:=[(0,.agg row)]) hw.2.2.2.1 ⟨E,hw.2.2.2.2,trivial⟩ I) h
def bsI(S:St B w0 w fs)(h:∀b w',St B w0 w' (.Mg b #[v] tt::fs)->wL P N ops Q rest ((d,.slice (some ⟨b,0,none⟩) 1 1)::l) w')(hw:gM o d N (o.op=.buildSlice t 1 [(0,x)].toArray/\ev l x=some v):=by exact⟨E,E,E,E,E⟩)(J:P.underlying t=some (.slice tt):=by exact VU)(I:(Instr.buildSlice t 1 [(0,v)].toArray).run P w=.ok (.slice (some ⟨w.heap.size,0,none⟩) 1 1) (w.alloc (.cells #[v] tt)):=by kernel_rfl):wL P N ops Q (o::rest) l w:=mV (V:=λb=>.slice (some ⟨b,0,none⟩) 1 1) S (wn hw.1) hw.2.1 hw.2.2.1 (aV (vs:=[(0,v)]) hw.2.2.2.1 ⟨E,hw.2.2.2.2,trivial⟩ I) h
def Gz(j:Nat)(I:ops[j]? =some o)(S:St B w0 w fs)(h:∀b w',St B w0 w' (.Mg b row tt::fs)->C w'/\wA P N ops Q C n ls'.toArray ((d,.slice (some ⟨b,0,none⟩) 1 1)::l) w')(J:zX ls j ls':=by exact slQ)(hw:gM o d N (o.op=.buildSlice t 1 [(0,x)].toArray/\ev l x=some (.agg row)):=by exact⟨E,E,E,E,E⟩)(O:P.underlying t=some (.slice tt):=by exact VU)(M:(Instr.buildSlice t 1 [(0,Value.agg row)].toArray).run P w=.ok (.slice (some ⟨w.heap.size,0,none⟩) 1 1) (w.alloc (.cells row tt)):=by kernel_rfl):wK P N ops Q C n j ls.toArray l w:=kg (V:=λb=>.slice (some ⟨b,0,none⟩) 1 1) I J.eq S (wn hw.1) hw.2.1 hw.2.2.1 (aV (vs:=[(0,.agg row)]) hw.2.2.2.1 ⟨E,hw.2.2.2.2,trivial⟩ M) h
end
inductive xS (l:Nj):List Operand->List Value->Prop
 |z:xS l [] []
 |s {x:Operand} {xs:List Operand} {v:Value} {vs:List Value}:ev l x=some v->xS l xs vs->xS l (x::xs) (v::vs)
def xS.Gs{xs:List Operand}{vs:List Value}(h:xS l xs vs):QB l xs vs:=by
 induction h with
 |z=>exact trivial
 |s h _ I=>exact⟨h,I⟩
section
variable {f:FuncId}{first cap us vs:List Value}{x:Operand}{xs ys:List Operand}{ts:Array TypeId}{R:Ending->World->Prop}
def wJ(I:∀args w,(callFunc f args).run P w=.ok (.enter f args) w)(J:Calls P f us.toArray w R)(h:∀e w',R e w'-> ∃v,e=.returned v/\wL P N ops Q rest ((d,v)::l) w')(hw:gM o d N (o.op=.call {callee:=.value x,args:=xs.toArray,argTypes:=ts}):=by exact⟨E,E,E,E⟩)(hv:ev l x=some (.func (.func f) first.toArray cap.toArray):=by exact E)(M:xS l xs vs:=by repeat' first|exact xS.z|apply xS.s rfl)(O:first++vs++cap=us:=by exact E):wL P N ops Q (o::rest) l w:=IL (wn hw.1) hw.2.1 hw.2.2.1 (Zq hw.2.2.2 hv I M.Gs O) J h
def nC{C:World->Prop}{n:Nat}{ls ls':List Bool}(j:Nat)(I:ops[j]? =some o)(J:∀args w,(callFunc f args).run P w=.ok (.enter f args) w)(M:Calls P f us.toArray w R)(h:∀e w',R e w'-> ∃v,e=.returned v/\C w'/\wA P N ops Q C n ls'.toArray ((d,v)::l) w')(O:zX ls j ls':=by exact slQ)(hw:gM o d N (o.op=.call {callee:=.value x,args:=xs.toArray,argTypes:=ts}):=by exact⟨E,E,E,E⟩)(hv:ev l x=some (.func (.func f) first.toArray cap.toArray):=by exact E)(Z:xS l xs vs:=by repeat' first|exact xS.z|apply xS.s rfl)(hu:first++vs++cap=us:=by exact E):wK P N ops Q C n j ls.toArray l w:=uX I O.eq (wn hw.1) hw.2.1 hw.2.2.1 (Zq hw.2.2.2 hv J Z.Gs hu) M h
def kE{C:World->Prop}{n:Nat}{ls ls':List Bool}(j:Nat)(I:ops[j]? =some o)(J:∀args w,(callFunc f args).run P w=.ok (.enter f args) w)(M:Calls P f vs.toArray w R)(h:∀e w',R e w'-> ∃v,e=.returned v/\C w'/\wA P N ops Q C n ls'.toArray ((d,v)::l) w')(O:zX ls j ls':=by exact slQ)(hw:gM o d N (o.op=.call {callee:=.value (.func f),args:=xs.toArray,argTypes:=ts}):=by exact⟨E,E,E,E⟩)(Z:QB l xs vs:=by repeat' first|exact trivial|refine⟨rfl,?_⟩):wK P N ops Q C n j ls.toArray l w:=uX I O.eq (wn hw.1) hw.2.1 hw.2.2.1 (iY hw.2.2.2 J Z) M h
def JJ{g:Fn}(h:o.op=.makeFunc g xs.toArray ys.toArray:=by exact E)(I:xS l xs vs:=by repeat' first|exact xS.z|apply xS.s rfl)(J:xS l ys us:=by repeat' first|exact xS.z|apply xS.s rfl):jr P N l o w (.func g vs.toArray us.toArray):=K8 h I.Gs J.Gs
end
inductive NT (l:Nj):List (Nat×Operand)->List (Nat×Value)->Prop
 |z:NT l [] []
 |s {i:Nat} {x:Operand} {xs:List (Nat×Operand)} {v:Value} {vs:List (Nat×Value)}:ev l x=some v->NT l xs vs->NT l ((i,x)::xs) ((i,v)::vs)
def NT.evp{xs:List (Nat×Operand)}{vs:List (Nat×Value)}(h:NT l xs vs):EvP l xs vs:=by
 induction h with
 |z=>exact trivial
 |s h _ I=>exact⟨E,h,I⟩
def gH{t:TypeId}{xs:List (Nat×Operand)}{vs:List (Nat×Value)}(h:o.op=.build t xs.toArray:=by exact E)(I:NT l xs vs:=by repeat' first|exact NT.z|apply NT.s rfl)(J:(Instr.build t vs.toArray).run P w=.ok v w:=by kernel_rfl):jr P N l o w v:=Ed h I.evp J
section
variable {kd:IntKind}{xo yo:Operand}{x y z:Int}{t tt:TypeId}
def iI(I:o.op=.binOp .add t xo yo tt/\ev l xo=some (.int .i64 x)/\ev l yo=some (.int .i64 y):=by exact⟨E,E,E⟩)(J:x+y=z:=by omega)(h: -9223372036854775808<=z/\z<=9223372036854775807:=by omega):jr P N l o w (.int .i64 z):=bM I.1 I.2.1 I.2.2 (ad2 J h)
def ysu(I:o.op=.binOp .sub t xo yo tt/\ev l xo=some (.int .i64 x)/\ev l yo=some (.int .i64 y):=by exact⟨E,E,E⟩)(J:x-y=z:=by omega)(h: -9223372036854775808<=z/\z<=9223372036854775807:=by omega):jr P N l o w (.int .i64 z):=bM I.1 I.2.1 I.2.2 (avG J h)
def ko{p e:TypeId}{b off n c s:Nat}{i:Int}{xo yo:Operand}(k:Nat)(h:o.op=.indexAddr p xo yo/\ev l xo=some (.slice (some ⟨b,off,none⟩) n c)/\ev l yo=some (.int kd i):=by exact⟨E,E,E⟩)(J:P.underlying p=some (.slice e):=by exact VU)(M:(P.info? e).map (·.size)=some s:=by exact iiQ)(I:i=k:=by first|rfl|omega|simp)(O:k<n:=by first|omega|simp|decide):jr P N l o w (.pointer (some ⟨b,off+k*s,none⟩)):=aM h.1 h.2.1 h.2.2 (jP k J M I O)
end
section
variable {b m off:Nat}{row row' cs:Array Value}{t ty:TypeId}{x y:Operand}{C:World->Prop}{n:Nat}{ls ls':List Bool}
def jH(i:Nat)(S:St B w0 w fs)(I:(P.info? ty).map (·.size)=some m)(h:∀w',St B w0 w' fs'->wL P N ops Q rest l w')(hw:o.guard=none/\o.dst=none/\o.op=.store ty x y/\ev l x=some (.pointer (some ⟨b,off,none⟩))/\ev l y=some v:=by exact⟨E,E,E,E,E⟩)(hi:fs[i]? =some (.Mg b row t):=by exact E)(hv:v.cells=cs:=by exact E)(J:cs.size=m:=by exact E)(h1:∀u∈cs.toList,u.oneCell'=true:=by exact bY E)(M:ble (off+m) row.size=true:=by exact E)(hs:dn row off cs.toList=row':=by exact E)(O:iT (.Mg b row' t) fs i fs':=by repeat' first|exact iT.z|apply iT.s):wL P N ops Q (o::rest) l w:=Fz i S (wn hw.1) hw.2.1 hw.2.2.1 hw.2.2.2.1 hw.2.2.2.2 hi hv I J h1 (le_of_ble_eq_true M) hs O.eq h
def stA(i:Nat)(S:St B w0 w fs)(I:(P.info? ty).map (·.size)=some m)(h:∀w',St B w0 w' fs'->wL P N ops Q rest l w')(hw:o.guard=none/\o.dst=none/\o.op=.store ty x y/\ev l x=some (.pointer (some ⟨b,0,none⟩))/\ev l y=some v:=by exact⟨E,E,E,E,E⟩)(hi:fs[i]? =some (.Mg b row t):=by exact E)(hv:v.cells=cs:=by exact E)(J:cs.size=m:=by exact E)(h1:∀u∈cs.toList,u.oneCell'=true:=by exact bY E)(hs:row.size=cs.size:=by exact E)(M:ble (0+m) row.size=true:=by exact E)(O:iT (.Mg b cs t) fs i fs':=by repeat' first|exact iT.z|apply iT.s):wL P N ops Q (o::rest) l w:=Fz i S (wn hw.1) hw.2.1 hw.2.2.1 hw.2.2.2.1 hw.2.2.2.2 hi hv I J h1 (le_of_ble_eq_true M) (rF hs) O.eq h
def snz(j:Nat)(I:ops[j]? =some o)(i:Nat)(S:St B w0 w fs)(J:(P.info? ty).map (·.size)=some m)(h:∀w',St B w0 w' fs'->C w'/\wA P N ops Q C n ls'.toArray l w')(M:zX ls j ls':=by exact slQ)(hw:o.guard=none/\o.dst=none/\o.op=.store ty x y/\ev l x=some (.pointer (some ⟨b,off,none⟩))/\ev l y=some v:=by exact⟨E,E,E,E,E⟩)(hi:fs[i]? =some (.Mg b row t):=by exact E)(hv:v.cells=cs:=by exact E)(O:cs.size=m:=by exact E)(h1:∀u∈cs.toList,u.oneCell'=true:=by exact bY E)(Z:ble (off+m) row.size=true:=by exact E)(hs:dn row off cs.toList=row':=by exact E)(hf:iT (.Mg b row' t) fs i fs':=by repeat' first|exact iT.z|apply iT.s):wK P N ops Q C n j ls.toArray l w:=uH I M.eq i S (wn hw.1) hw.2.1 hw.2.2.1 hw.2.2.2.1 hw.2.2.2.2 hi hv J O h1 (le_of_ble_eq_true Z) hs hf.eq h
def snA(j:Nat)(I:ops[j]? =some o)(i:Nat)(S:St B w0 w fs)(J:(P.info? ty).map (·.size)=some m)(h:∀w',St B w0 w' fs'->C w'/\wA P N ops Q C n ls'.toArray l w')(M:zX ls j ls':=by exact slQ)(hw:o.guard=none/\o.dst=none/\o.op=.store ty x y/\ev l x=some (.pointer (some ⟨b,0,none⟩))/\ev l y=some v:=by exact⟨E,E,E,E,E⟩)(hi:fs[i]? =some (.Mg b row t):=by exact E)(hv:v.cells=cs:=by exact E)(O:cs.size=m:=by exact E)(h1:∀u∈cs.toList,u.oneCell'=true:=by exact bY E)(hs:row.size=cs.size:=by exact E)(Z:ble (0+m) row.size=true:=by exact E)(hf:iT (.Mg b cs t) fs i fs':=by repeat' first|exact iT.z|apply iT.s):wK P N ops Q C n j ls.toArray l w:=uH I M.eq i S (wn hw.1) hw.2.1 hw.2.2.1 hw.2.2.2.1 hw.2.2.2.2 hi hv J O h1 (le_of_ble_eq_true Z) (rF hs) hf.eq h
end
end
section
open ChangeAt ChangeMaps MapKept
open Go.Maps (Keyed IsMap Tidy)
def Me(P:Program)(k:TypeId)(ks:List Int)(o:Obj):Prop:= ∃es clock,o=.map es clock/\
 ∀(w:World) (b:Nat),w.heap[b]? =some o-> ∃dS:DataW Unit,w.ownsMap P k unitElem b ks.length dS/\(∀z,Maps.has dS (.int .i64 z)=decide (z∈ks))/\Maps.size dS<=ks.length/\(Maps.size dS<ks.length↔ ¬ks.Nodup)
section
variable {P:Program}{N:Nat}{l:Nj}{w w' w0:World}{B:Nat}{fs:List J8}{ops:Array Oper}{o:Oper}{rest:List Oper}{Q:Exit->Act->World->Prop}{d:Nat}
def Zz{k:TypeId}{ks:List Int}{b:Nat}{dS:DataW Unit}(J:w.ownsMap P k unitElem b ks.length dS)(M:∀z,Maps.has dS (.int .i64 z)=decide (z∈ks))(hs:Maps.size dS<=ks.length)(hn:Maps.size dS<ks.length↔ ¬ks.Nodup):∃o,w.heap[b]? =some o/\Me P k ks o:=by
 obtain⟨es,h,O,F,I,Z⟩:=J;refine⟨_,O,es,h,E,λw2 b2 h2=>⟨dS,⟨es,h,h2,F,I,Z⟩,M,hs,hn⟩⟩
def afY{k:TypeId}:Me P k [] (.map #[] 0):=by
 have h:=World.ownsMap_made default P k (unitElem (H:=Unit));obtain⟨o,h1,I⟩:=Zz (ks:=[]) h (λz=>by simp[Maps.has_eq]) (by simp[Maps.size_eq]) (by simp[Maps.size_eq]);have:(World.alloc default (Obj.map #[] 0)).heap[(default:World).heap.size]? =some (.map #[] 0):=by
  show((default:World).heap.push _)[_]? =_
  rw[Array.getElem?_push,if_pos E]
 rw[this]at h1
 cases h1;exact I
def X8{t k:TypeId}(S:St B w0 w fs)(hw:Nq N ops l o true)(I:o.dst=some d)(J:blt d N=true)(M:o.op=.makeMap t none)
  (h:∀b w',St B w0 w' (.loc b (Me P k [])::fs)->wL P N ops Q rest ((d,.map (some b))::l) w'):wL P N ops Q (o::rest) l w:=
 QE hw I J (NH M (run_makeMap t w)) (h _ _ (S.SA afY))
def X9{ks:List Int}{z:Int}:(ks++[z]).Nodup↔ks.Nodup/\z ∉ ks:=by
 rw[nodup_append]
 constructor
 ·rintro⟨h1,_,I⟩;exact⟨h1,λh=>I z h z iQ E⟩
 rintro⟨h1,I⟩;exact⟨h1,by simp,λa M b J e=>by simp at J;subst J;subst e;exact I M⟩
def NU{t k e:TypeId}{m x y:Operand}{b:Nat}{ks:List Int}{z:Int}(i:Nat)(S:St B w0 w fs)(hw:Nq N ops l o true)(hd:o.dst=none)(ho:o.op=.mapUpdate t m x y)(hm:ev l m=some (.map (some b)))(hx:ev l x=some (.int .i64 z))(hy:ev l y=some (.agg #[]))
  (hi:fs[i]? =some (.loc b (Me P k ks))) (hk:P.underlying k=some (.int .i64)) (ht:P.underlying t=some (.map k e)) (hz: -9223372036854775808<=z/\z<=9223372036854775807) (hn:ks.length<maxLen)
  (h:∀w',St B w0 w' (fs.set i (.loc b (Me P k (ks++[z]))))->wL P N ops Q rest l w'):wL P N ops Q (o::rest) l w:=by
 obtain⟨ob,hb,es,clock,rfl,O⟩:=S.loc i hi;obtain⟨dS,I,hh,hs,hnd⟩:=O w b hb;have K:Keyed P k:=Maps.int_keyed hk;have Z:keyOf P k (.int .i64 z)=some (.int .i64 z):=Maps.keyOf_int_mk hk (by simp[Lit.wf,IntKind.min,IntKind.max,IntKind.signed,IntKind.bits];omega);obtain⟨w',hrun,M,htu⟩:=I.store K ht hn Z (unitElem_mk (H:=Unit));have hlk:WideAt.IsKeyLit (.int .i64 z):=trivial;have J:=I.tidy K;have hmap:=I.isMap;obtain⟨o',ho',hR⟩:=Zz (ks:=ks++[z]) (by simpa using M) (λy=>by
  by_cases e:y=z
  ·subst e;rw[Maps.has_put_same hmap hlk];simp
  ·rw[Maps.has_put_other (by simpa using e),hh];simp[e]) (by
  rw[Maps.size_put J];simp
  split<;>omega) (by
  rw[Maps.size_put J,X9,hh z];by_cases e:z∈ks
  ·simp[e];omega
  simp[e];omega)
 have hu:uF w b w':=by
  obtain⟨es1,c1,es2,c2,h1,rfl⟩:=htu;exact⟨E,E,E,by simp[setBlock],λj hj=>heap_setBlock_other h1 _ hj⟩
 exact ND hw hd (UC ho hm hx hy hrun) (h _ (S.VN i hi hu ho' hR))
def afZ{t k e:TypeId}{b:Nat}{ks:List Int}(i:Nat)(S:St B w0 w fs)(hi:fs[i]? =some (.loc b (Me P k ks)))(M:P.underlying t=some (.map k e))(ty:TypeId):∃n:Nat,(∀cs,(builtin .len #[t] ty cs #[.map (some b)]).run P w=.ok (.value (.int .i64 n)) w)/\n<=ks.length/\(n<ks.length↔ ¬ks.Nodup):=by
 obtain⟨Z,O,es,J,rfl,h⟩:=S.loc i hi;obtain⟨dS,I,hh,hs,hnd⟩:=h w b O;refine⟨Maps.size dS,λcs=>?_,hs,hnd⟩;simp[builtin,I.len M ty,Sem.run_bind,Result.andThen]
end
end
def Dx{P:Program}(w:World)(t e ty:TypeId)(z:Value)(J:P.underlying t=some (.slice e))(hv:∀w,(zeroValue e).run P w=.ok z w)(Z:0<z.cells.size)(h1:∀u∈z.cells.toList,u.oneCell'=true)(b o c:Nat)
  (M:∀j,j<z.cells.size->(w.cell? ⟨b,o+j,none⟩).isSome=true) (O:∀j,j<z.cells.size->w.frozen? ⟨b,o+j,none⟩=false):
  (Builtin.clear_ #[t] ty #[.slice (some ⟨b,o,none⟩) 1 c]).run P w=.ok (.tuple #[]) (w.setCells b o z.cells.toList):=by
 have I:(Builtin.zeroCells z.cells 1).toList=z.cells.toList:=by
  simp[Builtin.zeroCells];apply ext_getElem
  ·simp
  intro i h1 h2;simp at h1;simp[mod_eq_of_lt h1,getElem!_pos z.cells i h1]
 have h:=run_storeCells_cells (P:=P) b o z.cells.toList 0 w (by simpa using M) (by simpa using O) h1;simp only[Nat.add_zero]at h;simp[Builtin.clear_,run_underlying J,hv,I,h]
def UE(g n c i base:Nat)(xs:List Value)(w:World)(ho:w.ownsRow base 225 4 (.slice (some ⟨g,0,none⟩) n c) n xs)(h1:∀u∈xs,u.oneCell'=true)(hi:i<n):
 Calls prog 130 #[.slice (some ⟨g,0,none⟩) n c,.int .i64 i,.int .i64 ((i:Int)+1)] w λe w'=>e=.returned (.slice (some ⟨g,0,none⟩) (n-1) c)/\uF w g w'/\w'.ownsRow base 225 4 (.slice (some ⟨g,0,none⟩) (n-1) c) (n-1) (xs.take (i*4)++xs.drop ((i+1)*4)):=by
 obtain⟨hxl,hx2⟩:=ho
 rcases hx2 with⟨hx2,_⟩|⟨g',cap,cur,hv,hg,hh,hnc,hcm,hsz,htk⟩
 ·cases hx2
 have hv':g=g'/\c=cap:=by
  simp only[Value.slice.injEq,Option.some.injEq,Addr.mk.injEq]at hv;exact⟨hv.1.1,hv.2.2⟩
 obtain⟨rfl,rfl⟩:=hv';clear hv;unfold maxLen at hcm;obtain⟨j0,hj0,SH,SI,SK⟩:=info_parts (show(prog.info? 225).map (λi=>(i.zero,i.size,i.bytes))=some (some (Value.agg #[.int .i64 0,.int .i64 0,.int .i64 0,.int .i64 0]),4,32) by kernel_rfl);have hzv:∀w,(zeroValue 225).run prog w=.ok (.agg #[.int .i64 0,.int .i64 0,.int .i64 0,.int .i64 0]) w:=zeroValue225;have B0:gB w g cur 225:=⟨hh⟩;obtain⟨news,hnews⟩:∃news,news=xs.drop ((i+1)*4):=⟨_,E⟩;have hlen:news.length=(n-(i+1))*4:=by rw[hnews,length_drop,hxl,Nat.sub_mul]
 have hcx:∀(j:Nat) (u:Value),xs[j]? =some u->cur[j]? =some u:=by
  intro j u hu;have hj:j<n*4:=by have:=(List.getElem?_eq_some_iff.1 hu).1;omega
  rw[<-htk,getElem?_take_of_lt hj]at hu;simpa using hu
 obtain⟨A,hA,hsrc⟩:∃A:Addr,(if c=i+1 then some (⟨g,0,none⟩:Addr)else some ⟨g,(i+1)*4,none⟩)=some A/\Hid (∀(t:Nat) (u:Value),news[t]? =some u->w.drew.cell? (A.add t)=some u):=by
  by_cases h:c=i+1
  ·refine⟨⟨g,0,none⟩,by simp[h],λt u hu=>?_⟩;have h0:news.length=0:=by rw[hlen];omega
   rw[length_eq_zero_iff.1 h0]at hu;simp at hu
  refine⟨⟨g,(i+1)*4,none⟩,by simp[h],λt u hu=>?_⟩;rw[hnews,getElem?_drop]at hu;rw[Go.WideShapes.add_plain];exact B0.drew.cell (hcx _ _ hu)
 have s1:Hid (news.length=(n-(i+1))*4):=hlen;have s2:Hid (∀u∈news,u.oneCell'=true):=λu hu=>h1 u (mem_of_mem_drop (by rw[hnews]at hu;exact hu));have s3:Hid (∀t,t<news.length->(w.drew.cell? ⟨g,0+i*4+t,none⟩).isSome=true/\w.drew.frozen? ⟨g,0+i*4+t,none⟩=false):=by
  intro t ht;rw[hlen]at ht;have hb:0+i*4+t<cur.size:=by rw[hsz];omega
  exact⟨by rw[B0.drew.cell (Array.getElem?_eq_getElem hb)];rfl,B0.drew.free _⟩
 have B1:=jK news (0+i*4) B0.drew;have hs1:(dn cur (0+i*4) news).size=c*4:=by rw[nO,hsz]
 have hcl:Hid (∀ty,(Builtin.clear_ #[177] ty #[.slice (some ⟨g,(i+(n-(i+1)))*4,none⟩) (n-(i+(n-(i+1)))) (c-(i+(n-(i+1))))]).run prog (w.drew.setCells g (0+i*4) news)=.ok (.tuple #[]) ((w.drew.setCells g (0+i*4) news).setCells g ((i+(n-(i+1)))*4) (#[.int .i64 0,.int .i64 0,.int .i64 0,.int .i64 0]:Array Value).toList)):=by
  intro ty;rw[show n-(i+(n-(i+1)))=1 by omega];refine Dx _ _ 225 ty (.agg #[.int .i64 0,.int .i64 0,.int .i64 0,.int .i64 0]) underlying177 hzv (by simp[Value.cells]) (by simp[Value.cells,Value.oneCell']) g _ _ (λj hj=>?_) (λj hj=>B1.free _);have hj':j<4:=by simpa[Value.cells]using hj
  have hb:(i+(n-(i+1)))*4+j< (dn cur (0+i*4) news).size:=by rw[hs1];omega
  rw[B1.cell (Array.getElem?_eq_getElem hb)];rfl
 have U:uF w g ((w.drew.setCells g (0+i*4) news).setCells g ((i+(n-(i+1)))*4) (#[.int .i64 0,.int .i64 0,.int .i64 0,.int .i64 0]:Array Value).toList):=(Gu w g).trans ((jL g _ _ _).trans (jL g _ _ _));have B2:=jK (#[.int .i64 0,.int .i64 0,.int .i64 0,.int .i64 0]:Array Value).toList ((i+(n-(i+1)))*4) B1;have hl2:(#[.int .i64 0,.int .i64 0,.int .i64 0,.int .i64 0]:Array Value).toList.length=4:=rfl;have hfin:(dn (dn cur (0+i*4) news) ((i+(n-(i+1)))*4) (#[.int .i64 0,.int .i64 0,.int .i64 0,.int .i64 0]:Array Value).toList).toList.take ((n-1)*4)=xs.take (i*4)++news:=by
  rw[iC _ _ _ (by rw[hs1,hl2];omega),iC _ _ _ (by rw[hlen,hsz];omega)];have e1:(n-1)*4=(i+(n-(i+1)))*4:=by congr 1;omega
  have a1:(cur.toList.take (0+i*4)).length=i*4:=by simp[hsz];omega
  rw[e1,append_assoc,take_append_of_le_length (by simp[hlen,hsz];omega),take_take,Nat.min_self];rw[take_append_of_le_length (by simp[hlen,hsz];omega),take_of_length_le (by simp[hlen,hsz];omega)]
  congr 1
  rw[<-htk,take_take,Nat.zero_add,Nat.min_eq_left Y]
 have HF:Hid (((w.drew.setCells g (0+i*4) news).setCells g ((i+(n-(i+1)))*4) (#[.int .i64 0,.int .i64 0,.int .i64 0,.int .i64 0]:Array Value).toList).ownsRow base 225 4 (.slice (some ⟨g,0,none⟩) (n-1) c) (n-1) (xs.take (i*4)++news)):=by
  refine⟨by rw[length_append,length_take,hlen,hxl];omega,.inr ⟨g,c,_,E,hg,B2.Mg,by omega,hcm,by rw[nO,hs1],hfin⟩⟩
 rw[<-hnews];have HU:=Lib.hid U;clear hnews hlen hcx B0 B1 B2 hs1 hfin U hl2 hh hsz htk hxl h1 hg SH SK hzv;have hic:i<=c:=Y;have hjc:i+1<=c:=Y;have t1:((i:Int)==(i:Int)+1)=false:=by rw[beq_eq_false_iff_ne];omega
 have t2:0<=(i:Int)+1:=Y;have t3:(i:Int)+1<=(n:Int):=Y;obtain⟨W1,hW⟩:∃W1,Hid (W1=w.drew.setCells g (0+i*4) news):=⟨_,Lib.hid E⟩;rw[<-hW.out]at hcl HF HU;generalize hZ:(#[.int .i64 0,.int .i64 0,.int .i64 0,.int .i64 0]:Array Value).toList=zs at hcl HF HU;clear hZ;have hcl:=hcl.out
 go_enter func130,ntmps130
 go_wp2_with fail
 go_region_law (refine step_append_room E (.tmp 22) (.tmp 25) 177 E 225 j0 4 underlying177 hj0 SI g 0 i c (by simp[Act.eval,Act.put]) A (n-(i+1)) (c-(i+1)) news (by simp[Act.eval,Act.put]) s1.out hsrc.out s2.out Y s3.out ?_;rw[<-hW.out])
 go_wp2_with fail
 go_ret
 refine⟨?_,HU.out,HF.out⟩;simp;omega
def UF(g n c i base:Nat)(xs:List Value)(w:World)(ho:w.ownsRow base 119 23 (.slice (some ⟨g,0,none⟩) n c) n xs)(h1:∀u∈xs,u.oneCell'=true)(hi:i<n):
 Calls prog 49 #[.slice (some ⟨g,0,none⟩) n c,.int .i64 i,.int .i64 ((i:Int)+1)] w λe w'=>e=.returned (.slice (some ⟨g,0,none⟩) (n-1) c)/\uF w g w'/\w'.ownsRow base 119 23 (.slice (some ⟨g,0,none⟩) (n-1) c) (n-1) (xs.take (i*23)++xs.drop ((i+1)*23)):=by
 obtain⟨hxl,hx2⟩:=ho
 rcases hx2 with⟨hx2,_⟩|⟨g',cap,cur,hv,hg,hh,hnc,hcm,hsz,htk⟩
 ·cases hx2
 have hv':g=g'/\c=cap:=by
  simp only[Value.slice.injEq,Option.some.injEq,Addr.mk.injEq]at hv;exact⟨hv.1.1,hv.2.2⟩
 obtain⟨rfl,rfl⟩:=hv';clear hv;unfold maxLen at hcm;obtain⟨j0,hj0,SH,SI,SK⟩:=info_parts (show(prog.info? 119).map (λi=>(i.zero,i.size,i.bytes))=some (some (Value.agg #[.int .i64 0,.int .i64 0,.int .i64 0,.int .i64 0,.int .i64 0,.int .i64 0,.int .i64 0,.int .i64 0,.int .i64 0,.int .i64 0,.int .i64 0,.int .i64 0,.int .i64 0,.slice none 0 0,.bool false,.int .i64 0,.int .i64 0,.int .i64 0,.int .i64 0,.int .i64 0,.int .i64 0,.int .i64 0,.int .i64 0]),23,200) by kernel_rfl);have hzv:∀w,(zeroValue 119).run prog w=.ok (.agg #[.int .i64 0,.int .i64 0,.int .i64 0,.int .i64 0,.int .i64 0,.int .i64 0,.int .i64 0,.int .i64 0,.int .i64 0,.int .i64 0,.int .i64 0,.int .i64 0,.int .i64 0,.slice none 0 0,.bool false,.int .i64 0,.int .i64 0,.int .i64 0,.int .i64 0,.int .i64 0,.int .i64 0,.int .i64 0,.int .i64 0]) w:=zeroValue119;have B0:gB w g cur 119:=⟨hh⟩;obtain⟨news,hnews⟩:∃news,news=xs.drop ((i+1)*23):=⟨_,E⟩;have hlen:news.length=(n-(i+1))*23:=by rw[hnews,length_drop,hxl,Nat.sub_mul]
 have hcx:∀(j:Nat) (u:Value),xs[j]? =some u->cur[j]? =some u:=by
  intro j u hu;have hj:j<n*23:=by have:=(List.getElem?_eq_some_iff.1 hu).1;omega
  rw[<-htk,getElem?_take_of_lt hj]at hu;simpa using hu
 obtain⟨A,hA,hsrc⟩:∃A:Addr,(if c=i+1 then some (⟨g,0,none⟩:Addr)else some ⟨g,(i+1)*23,none⟩)=some A/\Hid (∀(t:Nat) (u:Value),news[t]? =some u->w.drew.cell? (A.add t)=some u):=by
  by_cases h:c=i+1
  ·refine⟨⟨g,0,none⟩,by simp[h],λt u hu=>?_⟩;have h0:news.length=0:=by rw[hlen];omega
   rw[length_eq_zero_iff.1 h0]at hu;simp at hu
  refine⟨⟨g,(i+1)*23,none⟩,by simp[h],λt u hu=>?_⟩;rw[hnews,getElem?_drop]at hu;rw[Go.WideShapes.add_plain];exact B0.drew.cell (hcx _ _ hu)
 have s1:Hid (news.length=(n-(i+1))*23):=hlen;have s2:Hid (∀u∈news,u.oneCell'=true):=λu hu=>h1 u (mem_of_mem_drop (by rw[hnews]at hu;exact hu));have s3:Hid (∀t,t<news.length->(w.drew.cell? ⟨g,0+i*23+t,none⟩).isSome=true/\w.drew.frozen? ⟨g,0+i*23+t,none⟩=false):=by
  intro t ht;rw[hlen]at ht;have hb:0+i*23+t<cur.size:=by rw[hsz];omega
  exact⟨by rw[B0.drew.cell (Array.getElem?_eq_getElem hb)];rfl,B0.drew.free _⟩
 have B1:=jK news (0+i*23) B0.drew;have hs1:(dn cur (0+i*23) news).size=c*23:=by rw[nO,hsz]
 have hcl:Hid (∀ty,(Builtin.clear_ #[91] ty #[.slice (some ⟨g,(i+(n-(i+1)))*23,none⟩) (n-(i+(n-(i+1)))) (c-(i+(n-(i+1))))]).run prog (w.drew.setCells g (0+i*23) news)=.ok (.tuple #[]) ((w.drew.setCells g (0+i*23) news).setCells g ((i+(n-(i+1)))*23) (#[.int .i64 0,.int .i64 0,.int .i64 0,.int .i64 0,.int .i64 0,.int .i64 0,.int .i64 0,.int .i64 0,.int .i64 0,.int .i64 0,.int .i64 0,.int .i64 0,.int .i64 0,.slice none 0 0,.bool false,.int .i64 0,.int .i64 0,.int .i64 0,.int .i64 0,.int .i64 0,.int .i64 0,.int .i64 0,.int .i64 0]:Array Value).toList)):=by
  intro ty;rw[show n-(i+(n-(i+1)))=1 by omega];refine Dx _ _ 119 ty (.agg #[.int .i64 0,.int .i64 0,.int .i64 0,.int .i64 0,.int .i64 0,.int .i64 0,.int .i64 0,.int .i64 0,.int .i64 0,.int .i64 0,.int .i64 0,.int .i64 0,.int .i64 0,.slice none 0 0,.bool false,.int .i64 0,.int .i64 0,.int .i64 0,.int .i64 0,.int .i64 0,.int .i64 0,.int .i64 0,.int .i64 0]) underlying91 hzv (by simp[Value.cells]) (by simp[Value.cells,Value.oneCell']) g _ _ (λj hj=>?_) (λj hj=>B1.free _);have hj':j<23:=by simpa[Value.cells]using hj
  have hb:(i+(n-(i+1)))*23+j< (dn cur (0+i*23) news).size:=by rw[hs1];omega
  rw[B1.cell (Array.getElem?_eq_getElem hb)];rfl
 have U:uF w g ((w.drew.setCells g (0+i*23) news).setCells g ((i+(n-(i+1)))*23) (#[.int .i64 0,.int .i64 0,.int .i64 0,.int .i64 0,.int .i64 0,.int .i64 0,.int .i64 0,.int .i64 0,.int .i64 0,.int .i64 0,.int .i64 0,.int .i64 0,.int .i64 0,.slice none 0 0,.bool false,.int .i64 0,.int .i64 0,.int .i64 0,.int .i64 0,.int .i64 0,.int .i64 0,.int .i64 0,.int .i64 0]:Array Value).toList):=(Gu w g).trans ((jL g _ _ _).trans (jL g _ _ _));have B2:=jK (#[.int .i64 0,.int .i64 0,.int .i64 0,.int .i64 0,.int .i64 0,.int .i64 0,.int .i64 0,.int .i64 0,.int .i64 0,.int .i64 0,.int .i64 0,.int .i64 0,.int .i64 0,.slice none 0 0,.bool false,.int .i64 0,.int .i64 0,.int .i64 0,.int .i64 0,.int .i64 0,.int .i64 0,.int .i64 0,.int .i64 0]:Array Value).toList ((i+(n-(i+1)))*23) B1;have hl2:(#[.int .i64 0,.int .i64 0,.int .i64 0,.int .i64 0,.int .i64 0,.int .i64 0,.int .i64 0,.int .i64 0,.int .i64 0,.int .i64 0,.int .i64 0,.int .i64 0,.int .i64 0,.slice none 0 0,.bool false,.int .i64 0,.int .i64 0,.int .i64 0,.int .i64 0,.int .i64 0,.int .i64 0,.int .i64 0,.int .i64 0]:Array Value).toList.length=23:=rfl;have hfin:(dn (dn cur (0+i*23) news) ((i+(n-(i+1)))*23) (#[.int .i64 0,.int .i64 0,.int .i64 0,.int .i64 0,.int .i64 0,.int .i64 0,.int .i64 0,.int .i64 0,.int .i64 0,.int .i64 0,.int .i64 0,.int .i64 0,.int .i64 0,.slice none 0 0,.bool false,.int .i64 0,.int .i64 0,.int .i64 0,.int .i64 0,.int .i64 0,.int .i64 0,.int .i64 0,.int .i64 0]:Array Value).toList).toList.take ((n-1)*23)=xs.take (i*23)++news:=by
  rw[iC _ _ _ (by rw[hs1,hl2];omega),iC _ _ _ (by rw[hlen,hsz];omega)];have e1:(n-1)*23=(i+(n-(i+1)))*23:=by congr 1;omega
  have a1:(cur.toList.take (0+i*23)).length=i*23:=by simp[hsz];omega
  rw[e1,append_assoc,take_append_of_le_length (by simp[hlen,hsz];omega),take_take,Nat.min_self];rw[take_append_of_le_length (by simp[hlen,hsz];omega),take_of_length_le (by simp[hlen,hsz];omega)]
  congr 1
  rw[<-htk,take_take,Nat.zero_add,Nat.min_eq_left Y]
 have HF:Hid (((w.drew.setCells g (0+i*23) news).setCells g ((i+(n-(i+1)))*23) (#[.int .i64 0,.int .i64 0,.int .i64 0,.int .i64 0,.int .i64 0,.int .i64 0,.int .i64 0,.int .i64 0,.int .i64 0,.int .i64 0,.int .i64 0,.int .i64 0,.int .i64 0,.slice none 0 0,.bool false,.int .i64 0,.int .i64 0,.int .i64 0,.int .i64 0,.int .i64 0,.int .i64 0,.int .i64 0,.int .i64 0]:Array Value).toList).ownsRow base 119 23 (.slice (some ⟨g,0,none⟩) (n-1) c) (n-1) (xs.take (i*23)++news)):=by
  refine⟨by rw[length_append,length_take,hlen,hxl];omega,.inr ⟨g,c,_,E,hg,B2.Mg,by omega,hcm,by rw[nO,hs1],hfin⟩⟩
 rw[<-hnews];have HU:=Lib.hid U;clear hnews hlen hcx B0 B1 B2 hs1 hfin U hl2 hh hsz htk hxl h1 hg SH SK hzv;have hic:i<=c:=Y;have hjc:i+1<=c:=Y;have t1:((i:Int)==(i:Int)+1)=false:=by rw[beq_eq_false_iff_ne];omega
 have t2:0<=(i:Int)+1:=Y;have t3:(i:Int)+1<=(n:Int):=Y;obtain⟨W1,hW⟩:∃W1,Hid (W1=w.drew.setCells g (0+i*23) news):=⟨_,Lib.hid E⟩;rw[<-hW.out]at hcl HF HU;generalize hZ:(#[.int .i64 0,.int .i64 0,.int .i64 0,.int .i64 0,.int .i64 0,.int .i64 0,.int .i64 0,.int .i64 0,.int .i64 0,.int .i64 0,.int .i64 0,.int .i64 0,.int .i64 0,.slice none 0 0,.bool false,.int .i64 0,.int .i64 0,.int .i64 0,.int .i64 0,.int .i64 0,.int .i64 0,.int .i64 0,.int .i64 0]:Array Value).toList=zs at hcl HF HU;clear hZ;have hcl:=hcl.out
 go_enter func49,ntmps49
 go_wp2_with fail
 go_region_law (refine step_append_room E (.tmp 22) (.tmp 25) 91 E 119 j0 23 underlying91 hj0 SI g 0 i c (by simp[Act.eval,Act.put]) A (n-(i+1)) (c-(i+1)) news (by simp[Act.eval,Act.put]) s1.out hsrc.out s2.out Y s3.out ?_;rw[<-hW.out])
 go_wp2_with fail
 go_ret
 refine⟨?_,HU.out,HF.out⟩;simp;omega
section
open ChangeAt ChangeMaps MapKept
open Go.Maps (Keyed IsMap Tidy)
def IW(v:Value):Option (DataW Value×List MemPlace):=some (.held v,[])
def qw(P:Program)(k:TypeId)(f:Int->Option Value)(n:Nat)(o:Obj):Prop:= ∃es clock,o=.map es clock/\
 ∀(w:World) (b:Nat),w.heap[b]? =some o-> ∃dS:DataW Value,w.ownsMap P k IW b n dS/\ ∀z v,f z=some v-> ∀zd,dS.atKey (.int .i64 z) zd=.held v
section
variable {P:Program}{N:Nat}{l:Nj}{w w' w0:World}{B:Nat}{fs:List J8}{ops:Array Oper}{o:Oper}{rest:List Oper}{Q:Exit->Act->World->Prop}{d:Nat}
def ZA{k:TypeId}{f:Int->Option Value}{n b:Nat}{dS:DataW Value}(J:w.ownsMap P k IW b n dS)(M:∀z v,f z=some v-> ∀zd,dS.atKey (.int .i64 z) zd=.held v):∃o,w.heap[b]? =some o/\qw P k f n o:=by
 obtain⟨es,h,O,F,I,Z⟩:=J;exact⟨_,O,es,h,E,λw2 b2 h2=>⟨dS,⟨es,h,h2,F,I,Z⟩,M⟩⟩
def af0{k:TypeId}:qw P k (λ_=>none) 0 (.map #[] 0):=by
 have h:=World.ownsMap_made default P k IW;obtain⟨o,h1,I⟩:=ZA (f:=λ_=>none) h (λz v hv=>by cases hv);have:(World.alloc default (Obj.map #[] 0)).heap[(default:World).heap.size]? =some (.map #[] 0):=by
  show((default:World).heap.push _)[_]? =_
  rw[Array.getElem?_push,if_pos E]
 rw[this]at h1
 cases h1;exact I
def Kk{t k:TypeId}(S:St B w0 w fs)(hw:Nq N ops l o true)(I:o.dst=some d)(J:blt d N=true)(M:o.op=.makeMap t none)
  (h:∀b w',St B w0 w' (.loc b (qw P k (λ_=>none) 0)::fs)->wL P N ops Q rest ((d,.map (some b))::l) w'):wL P N ops Q (o::rest) l w:=
 QE hw I J (NH M (run_makeMap t w)) (h _ _ (S.SA af0))
def af2{t:TypeId}{m x y:Operand}{p q r:Value}(h:o.op=.insert t m x y)(I:ev l m=some p)(J:ev l x=some q)(M:ev l y=some r)(O:(Instr.mapUpdate t p q r).run P w=.ok () w'):Eff P N l o w w':=λa F=>by
 unfold execOp;simp[h,F.ev I,F.ev J,F.ev M,O,Result.andThen]
def kV{t k e:TypeId}{m x y:Operand}{b n:Nat}{f:Int->Option Value}{z:Int}{v:Value}(i:Nat)(S:St B w0 w fs)(hw:Nq N ops l o true)(hd:o.dst=none)(ho:o.op=.insert t m x y)(hm:ev l m=some (.map (some b)))(hx:ev l x=some (.int .i64 z))(hy:ev l y=some v)
  (hi:fs[i]? =some (.loc b (qw P k f n))) (hk:P.underlying k=some (.int .i64)) (ht:P.underlying t=some (.map k e)) (hz: -9223372036854775808<=z/\z<=9223372036854775807) (hn:n<maxLen)
  (h:∀w',St B w0 w' (fs.set i (.loc b (qw P k (λy=>if y=z then some v else f y) (n+1))))->wL P N ops Q rest l w'):wL P N ops Q (o::rest) l w:=by
 obtain⟨ob,hb,es,clock,rfl,O⟩:=S.loc i hi;obtain⟨dS,I,hf⟩:=O w b hb;have K:Keyed P k:=Maps.int_keyed hk;have Z:keyOf P k (.int .i64 z)=some (.int .i64 z):=Maps.keyOf_int_mk hk (by simp[Lit.wf,IntKind.min,IntKind.max,IntKind.signed,IntKind.bits];omega);obtain⟨w',hrun,J,htu⟩:=I.store K ht hn Z (d:=.held v) (ps:=[]) E;have hlk:WideAt.IsKeyLit (.int .i64 z):=trivial;have hmap:=I.isMap;obtain⟨o',ho',hR⟩:=ZA (f:=λy=>if y=z then some v else f y) J (λy u M zd=>by
  by_cases e:y=z
  ·subst e;rw[if_pos E]at M
   cases M;exact Maps.atKey_put_same hmap hlk _ _
  rw[if_neg e]at M;rw[Maps.atKey_put_other (by simpa using e)];exact hf y u M zd)
 have M:uF w b w':=by
  obtain⟨es1,c1,es2,c2,h1,rfl⟩:=htu;exact⟨E,E,E,by simp[setBlock],λj hj=>heap_setBlock_other h1 _ hj⟩
 exact ND hw hd (af2 ho hm hx hy hrun) (h _ (S.VN i hi M ho' hR))
def kr{t k e:TypeId}{x y:Operand}{b n:Nat}{f:Int->Option Value}{z:Int}{v u:Value}(i:Nat)(S:St B w0 w fs)(ho:o.op=.lookup t x y false)(hx:ev l x=some (.map (some b)))(hy:ev l y=some (.int .i64 z))
  (hi:fs[i]? =some (.loc b (qw P k f n))) (hk:P.underlying k=some (.int .i64)) (ht:P.underlying t=some (.map k e)) (hu:(zeroValue e).run P w=.ok u w) (hz: -9223372036854775808<=z/\z<=9223372036854775807) (hf:f z=some v):jr P N l o w v:=λa F=>by
 obtain⟨ob,hb,es,O,rfl,h⟩:=S.loc i hi;obtain⟨dS,I,hD⟩:=h w b hb;have K:Keyed P k:=Maps.int_keyed hk;have J:keyOf P k (.int .i64 z)=some (.int .i64 z):=Maps.keyOf_int_mk hk (by simp[Lit.wf,IntKind.min,IntKind.max,IntKind.signed,IntKind.bits];omega);obtain⟨v',ps,M,Z⟩:=I.lookup K ht hu (zd:=.held u) (zp:=[]) E J;rw[hD z v hf]at Z;simp only[IW,Option.some.injEq,Prod.mk.injEq,DataW.held.injEq]at Z;obtain⟨rfl,_⟩:=Z;unfold execOp;simp[ho,F.ev hx,F.ev hy,M,Result.andThen]
end
end
structure Ac where
 kd:Int
 nd:Int
 qu:Int
 at_:Int
 kp:Int
 ek:Int
 ep:Int
 ei:Int
 eb:Int
 eh:Int
 en:Int
def Ac.QF(x:Ac):List Int:=[x.kd,x.nd,x.qu,x.at_,x.kp,x.ek,x.ep,x.ei,x.eb,x.eh,x.en]
def MJ(l:List Int):List Value:=l.map (Value.int .i64)
def Ac.cells(x:Ac):List Value:=[D x.kd,D x.nd,D x.qu,D x.at_,D x.kp,D x.ek,D x.ep,D x.ei,D x.eb,D x.eh,D x.en]
def Ac.af3(x:Ac):x.cells=MJ x.QF:=rfl
def Ac.get(x:Ac)(i:Nat):Int:=x.QF.getD i 0
def Ac.cell(x:Ac){i:Nat}(h:i<11):x.cells[i]? =some (D (x.get i)):=by
 rw[Ac.af3,MJ,getElem?_map,getElem?_eq_getElem (by exact h)];have e:x.get i=x.QF[i]'h:=by simp only[Ac.get,getD_eq_getElem?_getD,getElem?_eq_getElem (show i<x.QF.length from h),Option.getD_some];rfl
 rw[e];rfl
def bU(kd ek:Int):Option (List (Nat×Int)):=
 if kd=1 then some [(2,3),(1,4)]else if kd=10 then some [(2,3),(1,4)]else if kd=3 then some [(1,4)]else if kd=9 then some [(1,4)]
 else if kd=8 then some [(1,4),(4,100000)]else if kd=4 then some [(3,1048576)]else if kd=5 then some [(3,1048576)]else if kd=6 then some [(3,1048576)]
 else if kd=7 then some []else if kd=2 then(if ek=1 then some [(1,4),(2,3),(6,3),(7,1073741824),(8,1000000)]else if ek=2 then some [(1,4),(2,3)]
 else if ek=3 then some [(1,4),(2,3),(9,1048576),(10,1073741824)]else none)else none
def kinds(kd ek:Int):kd=1\/kd=10\/kd=3\/kd=9\/kd=8\/kd=4\/kd=5\/kd=6\/kd=7\/(kd=2/\ek=1)\/(kd=2/\ek=2)\/(kd=2/\ek=3)\/bU kd ek=none:=by
 by_cases h1:kd=1
 ·simp[h1]
 by_cases h:kd=10
 ·simp[h]
 by_cases J:kd=3
 ·simp[J]
 by_cases M:kd=9
 ·simp[M]
 by_cases O:kd=8
 ·simp[O]
 by_cases Z:kd=4
 ·simp[Z]
 by_cases h5:kd=5
 ·simp[h5]
 by_cases h6:kd=6
 ·simp[h6]
 by_cases h7:kd=7
 ·simp[h7]
 by_cases I:kd=2
 ·by_cases e1:ek=1
  ·simp[I,e1]
  by_cases e2:ek=2
  ·simp[I,e2]
  by_cases e3:ek=3
  ·simp[I,e3]
  simp[bU,I,e1,e2,e3]
 simp[bU,I,h1,h,J,M,O,Z,h5,h6,h7]
def P6{kd ek:Int}{l:List (Nat×Int)}(h:bU kd ek=some l):∀p∈l,1<=p.1/\p.1<11/\p.1≠5:=by
 rcases kinds kd ek with rfl|rfl|rfl|rfl|rfl|rfl|rfl|rfl|rfl|⟨rfl,rfl⟩|⟨rfl,rfl⟩|⟨rfl,rfl⟩|hn
 all_goals first|(rw[hn]at h;cases h;done)|(simp[bU]at h;subst h;decide)
def af4{kd ek:Int}{l:List (Nat×Int)}(h:bU kd ek=some l):l.length<=5:=by
 rcases kinds kd ek with rfl|rfl|rfl|rfl|rfl|rfl|rfl|rfl|rfl|⟨rfl,rfl⟩|⟨rfl,rfl⟩|⟨rfl,rfl⟩|hn
 all_goals first|(rw[hn]at h;cases h;done)|(simp[bU]at h;subst h;decide)
def NV(x:Ac)(p:Nat×Int):Bool:=decide (0<=x.get p.1/\x.get p.1<=p.2)
def zo(c:List Int)(l:List (Nat×Int)):List Int:=l.foldl (λc p=>c.set p.1 0) c
def fin(x:Ac)(l:List (Nat×Int)):List Int:=(if x.kd=2 then(zo x.QF l).set 5 0 else zo x.QF l).set 0 0
def RF:List Int:=[0,0,0,0,0,0,0,0,0,0,0]
def dD(x:Ac):Int:=match bU x.kd x.ek with
 |none=>3
 |some l=>if l.all (NV x)=true then(if fin x l=RF then 0 else 3)else 2
def keep(x:Ac):Ac:=
 if x.kd=1 then⟨x.kd,x.nd,x.qu,0,0,0,0,0,0,0,0⟩else if x.kd=10 then⟨x.kd,x.nd,x.qu,0,0,0,0,0,0,0,0⟩else if x.kd=3 then⟨x.kd,x.nd,0,0,0,0,0,0,0,0,0⟩else if x.kd=9 then⟨x.kd,x.nd,0,0,0,0,0,0,0,0,0⟩
 else if x.kd=8 then⟨x.kd,x.nd,0,0,x.kp,0,0,0,0,0,0⟩else if x.kd=4 then⟨x.kd,0,0,x.at_,0,0,0,0,0,0,0⟩else if x.kd=5 then⟨x.kd,0,0,x.at_,0,0,0,0,0,0,0⟩else if x.kd=6 then⟨x.kd,0,0,x.at_,0,0,0,0,0,0,0⟩
 else if x.kd=7 then⟨x.kd,0,0,0,0,0,0,0,0,0,0⟩else if x.ek=1 then⟨x.kd,x.nd,x.qu,0,0,x.ek,x.ep,x.ei,x.eb,0,0⟩else if x.ek=2 then⟨x.kd,x.nd,x.qu,0,0,x.ek,0,0,0,0,0⟩else⟨x.kd,x.nd,x.qu,0,0,x.ek,0,0,0,x.eh,x.en⟩
def af5{x:Ac}{l:List (Nat×Int)}(h:bU x.kd x.ek=some l):x.QF=(keep x).QF↔fin x l=RF:=by
 obtain⟨kd,nd,qu,at_,kp,ek,ep,ei,eb,eh,en⟩:=x
 rcases kinds kd ek with rfl|rfl|rfl|rfl|rfl|rfl|rfl|rfl|rfl|⟨rfl,rfl⟩|⟨rfl,rfl⟩|⟨rfl,rfl⟩|hn
 all_goals first|(dsimp only at h;rw[hn]at h;cases h)|(simp[bU]at h;subst h;simp[Ac.QF,keep,fin,zo,RF];try omega)
def ako{x y:Ac}(h:x.QF=y.QF):x=y:=by
 obtain⟨a1,a2,a3,a4,a5,a6,a7,a8,a9,a10,a11⟩:=x;obtain⟨b1,b2,b3,b4,b5,b6,b7,M,O,I,J⟩:=y;simpa[Ac.QF]using h
section
variable {x:Ac}{l:List (Nat×Int)}
def ZB(h:bU x.kd x.ek=none):dD x=3:=by unfold dD;rw[h]
def Kl(h:bU x.kd x.ek=some l)(I:¬l.all (NV x)=true):dD x=2:=by unfold dD;rw[h];exact if_neg I
def P7(h:bU x.kd x.ek=some l)(I:l.all (NV x)=true)(J:¬fin x l=RF):dD x=3:=by unfold dD;rw[h];simp only[if_pos I,if_neg J]
def amC(h:bU x.kd x.ek=some l)(I:l.all (NV x)=true)(J:fin x l=RF):dD x=0:=by unfold dD;rw[h];simp only[if_pos I,if_pos J]
def af6{k:Nat}{p:Nat×Int}(h:l[k]? =some p)(I:(l.take k).all (NV x)=true)(J:0<=x.get p.1/\x.get p.1<=p.2):(l.take (k+1)).all (NV x)=true:=by
 rw[take_add_one,h,all_append,I];simp[NV,J]
def ZC{k:Nat}{p:Nat×Int}(h:l[k]? =some p)(I:¬(0<=x.get p.1/\x.get p.1<=p.2)):¬l.all (NV x)=true:=λJ=>by
 have:=all_eq_true.1 J p (mem_of_getElem? h);simp only[NV,decide_eq_true_eq]at this;exact I this
def af7{c:List Int}{k:Nat}{p:Nat×Int}(h:l[k]? =some p):(zo c (l.take k)).set p.1 0=zo c (l.take (k+1)):=by
 unfold zo;rw[take_add_one,h,foldl_append];rfl
def yB(c:List Int):∀(l:List (Nat×Int)),(zo c l).length=c.length
 |[]=>rfl
 |p::l=>by
  show(zo (c.set p.1 0) l).length=_
  rw[yB _ l,length_set]
def SL:∀(l:List (Nat×Int)) (c:List Int),(∀p∈l,1<=p.1)->(zo c l)[0]? =c[0]?
 |[],_,_=>rfl
 |p::l,c,h=>by
  show(zo (c.set p.1 0) l)[0]? =_
  rw[SL l _ λq I=>h q (mem_cons_of_mem _ I),getElem?_set_ne (by have:=h p (mem_cons_self ..);omega)]
end
def p9(c:List Int):Array Value:=(MJ c).toArray
def nE{c:List Int}(h:c.length=11):(p9 c).size=11:=by simp[p9,MJ,h]
def aa5{c:List Int}{i:Nat}{v:Int}(h:c[i]? =some v):(p9 c)[i]? =some (D v):=by simp[p9,MJ,h]
def BS{c:List Int}{i:Nat}:(p9 c).setIfInBounds i (D 0)=p9 (c.set i 0):=by
 apply Array.toList_inj.1;simp[p9,MJ,Array.toList_setIfInBounds,map_set]
def akp:flat prog 30 51=some (replicate 11 (.at_ (.int .i64))):=kQ
def akq:EG prog 30 51=true:=kQ
def aqE(xs:List Value):mkV prog 51 xs=.agg xs.toArray:=by
 unfold mkV;rw[underlying51]
def aeF{a b:List Int}(I:a.length=11)(J:b.length=11)(w:World):(binOp .neq 51 (.agg (p9 a)) (.agg (p9 b))).run prog w=.ok (.bool (!decide (a=b))) w:=by
 have M:=yw a;have O:=yw b;rw[I]at M;rw[J]at O;have h:=sI (P:=prog) w akp akq aqE M O;rw[zm (by rw[I,J])]at h;exact h
abbrev oZ:Array Value:= #[D 0,.bool false,.bool false,.bool false,.bool false,.bool false,D 0,D 0,D 0,D 0,D 0,D 0,D 0,D 0,.slice none 0 0,.slice none 0 0,.slice none 0 0,D 0]
abbrev aR (a:Ac):Array Value:= #[D a.kd,D a.nd,D a.qu,D a.at_,D a.kp,D a.ek,D a.ep,D a.ei,D a.eb,D a.eh,D a.en]
section
variable {P:Program}{N:Nat}{l:Nj}{w:World}{fn:Func}{R:Ending->World->Prop}{p:Prop}[Decidable p]
def oV(h:R (.returned (qH [])) w)(I:fn.results=([]:List ResultVar).toArray:=by exact E):wQ N (bodyPost P fn R) .normal l w:=NC (rs:=[]) (vs:=[]) I trivial h
def reT(h:p):Ending.returned (.bool true)=.returned (.bool (decide p)):=by rw[decide_eq_true h]
def zK(h:¬p):Ending.returned (.bool false)=.returned (.bool (decide p)):=by rw[decide_eq_false h]
end
section
open ChangeAt
def SN{α:Type}{enc:α->List Value}{sz:Nat}(h:∀x,(enc x).length=sz):∀(k:Nat) (l:List α),(l.flatMap enc).drop (k*sz)=(l.drop k).flatMap enc
 | 0,l=>by simp
 |k+1,[]=>by simp
 |k+1,x::l=>by rw[flatMap_cons,succ_mul,Nat.add_comm,<-drop_drop,drop_left' (h x),SN h k l];rfl
def SQ{α:Type}{enc:α->List Value}{sz:Nat}(h:∀x,(enc x).length=sz):∀(k:Nat) (l:List α),(l.flatMap enc).take (k*sz)=(l.take k).flatMap enc
 | 0,l=>by simp
 |k+1,[]=>by simp
 |k+1,x::l=>by rw[flatMap_cons,succ_mul,Nat.add_comm,take_append,h x,take_of_length_le (by rw[h x];omega),Nat.add_sub_cancel_left,SQ h k l];rfl
def FL{P:Program}{t e:TypeId}{α:Type}{enc:α->List Value}{s:Nat}(h:∀x,(enc x).length=s){A:Option Addr}{b:List α}{n c:Nat}{lo hi mx:Option Value}{l k q m c':Nat}(hu:P.underlying t=some (.slice e))(hz:(P.info? e).map (·.size)=some s)(hb:∀w,(Instr.sliceBounds true n c lo hi mx).run P w=.ok (l,k,q) w)
  (J:l<=k) (M:k<=n) (O:k<=q) (hm:k-l=m) (hc:q-l=c'):∃A',(∀w,(Instr.sliceAt t (.slice A n c) lo hi mx).run P w=.ok (.slice A' m c') w)/\(∀(w:World) (B:Nat),Rd w B s A n (b.flatMap enc)->Rd w B s A' m (((b.drop l).take m).flatMap enc))/\ ∀Z,A'=some Z-> ∃a,A=some a/\a.block=Z.block:=by
 subst hm;subst hc;obtain⟨A',h1,I,h3⟩:=BP (A:=A) hu hz hb J M O;refine⟨A',h1,λw B hR=>?_,h3⟩
 replace I:=I w B _ hR
 rw[SN h,SQ h]at I;exact I
end
structure cO where
 kind:Int
 Nt:Int
 Mc:Int
 Rl:Int
 ev:Ev
 deriving DecidableEq
def cO.val(r:cO):Value:=.agg #[.int .i64 r.kind,.int .i64 r.Nt,.int .i64 r.Mc,.int .i64 r.Rl,.int .i64 r.ev.kind,.int .i64 r.ev.Mr,.int .i64 r.ev.id,.int .i64 r.ev.body,.int .i64 r.ev.MF,.int .i64 r.ev.Nc]
def kR(k:Int):Bool:=k==2 || k==5
def aI:Ev:=⟨0,0,0,0,0,0⟩
def aH(r:cO):Int:=
 if kL r.kind 1 7=false then 3
 else if (kL r.Nt 0 3&&kL r.Mc 0 1048576&&kL r.Rl 0 4)=false then 2
 else if kR r.kind=true then aZ r.ev
 else if r.ev=aI then 0 else 3
def gq(k:Int)(w:World):Calls prog 77 #[.int .i64 k] w λe w'=>e=.returned (.bool (kR k))/\w=w':=by
 unfold kR
 cases h1:(k==2)<;>cases h2:(k==5)
 all_goals
  go_enter func77,ntmps77
  go_wp2
  go_ret
  exact⟨by simp,E⟩
def UG(r:cO)(w:World)(h:kL r.kind 1 7=false):Calls prog 59 #[r.val] w (ny w 3):=by
 obtain⟨k,q,ep,pe,x0,x1,x2,x3,x4,x5⟩:=r;unfold cO.val;simp only at h
 rcases aaQ.1 h with h1|h1
 all_goals
  clear h
  go_enter func59,ntmps59
  go_wp2_with (first|(go_at_call 76;refine(eZ _ _ _ _).mono ?_;rintro e w' ⟨rfl,rfl⟩)|(go_at_call 77;refine(gq _ _).mono ?_;rintro e w' ⟨rfl,rfl⟩))
  go_ret
  exact⟨E,by go_grown⟩
def aeJ(r:cO)(w:World)(h:kL r.kind 1 7=true)(hb:(kL r.Nt 0 3&&kL r.Mc 0 1048576&&kL r.Rl 0 4)=false):Calls prog 59 #[r.val] w (ny w 2):=by
 obtain⟨k,q,ep,pe,x0,x1,x2,x3,x4,x5⟩:=r;unfold cO.val;simp only at h hb;obtain⟨hk0,hk1⟩:=EI.1 h
 cases r1:kL q 0 3<;>cases r2:kL ep 0 1048576<;>cases r3:kL pe 0 4<;>simp[r1,r2,r3]at hb
 all_goals
  go_enter func59,ntmps59
  go_wp2_with (first|(go_at_call 76;refine(eZ _ _ _ _).mono ?_;rintro e w' ⟨rfl,rfl⟩)|(go_at_call 77;refine(gq _ _).mono ?_;rintro e w' ⟨rfl,rfl⟩))
  go_ret
  exact⟨E,by go_grown⟩
def UH(r:cO)(w:World)(h:kL r.kind 1 7=true)(hb:(kL r.Nt 0 3&&kL r.Mc 0 1048576&&kL r.Rl 0 4)=true)(he:kR r.kind=false):Calls prog 59 #[r.val] w (ny w (if r.ev=aI then 0 else 3)):=by
 obtain⟨k,q,ep,pe,x0,x1,x2,x3,x4,x5⟩:=r;unfold cO.val;simp only at h hb he⊢;obtain⟨hk0,hk1⟩:=EI.1 h;simp only[Bool.and_eq_true]at hb;obtain⟨⟨r1,r2⟩,r3⟩:=hb;have hq:=rE ⟨x0,x1,x2,x3,x4,x5⟩ aI;by_cases z:(⟨x0,x1,x2,x3,x4,x5⟩:Ev)=aI
 ·rw[if_pos z];rw[show decide ((⟨x0,x1,x2,x3,x4,x5⟩:Ev)=aI)=true from decide_eq_true z]at hq;simp only[aI]at hq z;simp only[Ev.mk.injEq]at z;obtain⟨rfl,rfl,rfl,rfl,rfl,rfl⟩:=z
  go_enter func59,ntmps59
  go_wp2_with (first|(go_at_call 76;refine(eZ _ _ _ _).mono ?_;rintro e w' ⟨rfl,rfl⟩)|(go_at_call 77;refine(gq _ _).mono ?_;rintro e w' ⟨rfl,rfl⟩))
  go_ret
  exact⟨E,by go_grown⟩
 rw[if_neg z];rw[show decide ((⟨x0,x1,x2,x3,x4,x5⟩:Ev)=aI)=false from decide_eq_false z]at hq;simp only[aI]at hq;have HZ:=Lib.hid z;clear z
 go_enter func59,ntmps59
 go_wp2_with (first|(go_at_call 76;refine(eZ _ _ _ _).mono ?_;rintro e w' ⟨rfl,rfl⟩)|(go_at_call 77;refine(gq _ _).mono ?_;rintro e w' ⟨rfl,rfl⟩))
 go_ret
 exact⟨E,by go_grown⟩
def aeK(r:cO)(w:World)(h:kL r.kind 1 7=true)(hb:(kL r.Nt 0 3&&kL r.Mc 0 1048576&&kL r.Rl 0 4)=true)(he:kR r.kind=true):Calls prog 59 #[r.val] w (ny w (aZ r.ev)):=by
 have HC:=Lib.hid (HY r.ev);generalize aZ r.ev=z at HC;obtain⟨k,q,ep,pe,x0,x1,x2,x3,x4,x5⟩:=r;unfold cO.val;unfold Ev.val at HC;simp only at h hb he HC⊢;obtain⟨hk0,hk1⟩:=EI.1 h;simp only[Bool.and_eq_true]at hb;obtain⟨⟨r1,r2⟩,r3⟩:=hb;have hk:k=2\/k=5:=by unfold kR at he;simp at he;exact he
 rcases hk with rfl|rfl
 all_goals
  go_enter func59,ntmps59
  go_wp2_with (first|(go_at_call 76;refine(eZ _ _ _ _).mono ?_;rintro e w' ⟨rfl,rfl⟩)|(go_at_call 77;refine(gq _ _).mono ?_;rintro e w' ⟨rfl,rfl⟩))
  refine(HC.out _).mono ?_;rintro e w1 ⟨rfl,hb1⟩;have HB:=Lib.hid hb1;clear hb1
  go_wp2_with fail
  go_ret
  exact⟨E,((Below.refl _ w).alloc (Nat.le_refl _) _).trans (HB.out.mono iQ)⟩
def jM(r:cO)(w:World):Calls prog 59 #[r.val] w (ny w (aH r)):=by
 unfold aH
 cases h:kL r.kind 1 7
 ·rw[if_pos E];exact UG r w h
 rw[if_neg iQ]
 cases I:(kL r.Nt 0 3&&kL r.Mc 0 1048576&&kL r.Rl 0 4)
 ·rw[if_pos E];exact aeJ r w h I
 rw[if_neg iQ]
 cases he:kR r.kind
 ·rw[if_neg iQ];exact UH r w h I he
 rw[if_pos E];exact aeK r w h I he
section
open Go.RowKit
def zL(n:Int):List UInt8:=[UInt8.ofNat (n / 16777216).toNat,UInt8.ofNat (n / 65536 % 256).toNat,UInt8.ofNat (n / 256 % 256).toNat,UInt8.ofNat (n % 256).toNat]
def aa7{n:Int}(I:0<=n)(h1:n<=2147483647):
 Gt (zL n)=[.int .u8 (n / 16777216),.int .u8 (n / 65536 % 256),.int .u8 (n / 256 % 256),.int .u8 (n % 256)]:=by
 have h:∀m:Int,0<=m->m<=255->((UInt8.ofNat m.toNat).toNat:Int)=m:=by
  intro m a b;simp;omega
 simp only[Gt,zL,map_cons,map_nil];rw[h _ Y Y,h _ Y Y,h _ Y Y,h _ Y Y]
def qR(n:Int):List UInt8×Int:=if 0<=n/\n<=2147483647 then(zL n,0)else([],2)
def nV(w:World)(r:List UInt8×Int)(e:Ending)(w':World):Prop:=
 ∃A c,e=.returned (.tuple #[.slice A r.1.length c,.int .i64 r.2])/\Below w.heap.size w w'/\Rd w' w'.heap.size 1 A r.1.length (Gt r.1)
def nV.Q8(w:World)(k:Int):nV w ([],k) (.returned (.tuple #[.slice none 0 0,.int .i64 k])) w:=
 ⟨none,0,E,Below.refl _ _,Rd.Q8⟩
def nV.four(w:World)(n:Int)(h0:0<=n)(h1:n<=2147483647)(t:TypeId):
 nV w (zL n,0) (.returned (.tuple #[.slice (some ⟨w.heap.size,0,none⟩) 4 4,.int .i64 0])) (w.alloc (.cells #[.int .u8 (n / 16777216),.int .u8 (n / 65536 % 256),.int .u8 (n / 256 % 256),.int .u8 (n % 256)] t)):=by
 refine⟨_,4,E,by go_grown,?_⟩;have:=Rd.ah4 w t (Gt (zL n)) 4 1 (by simp[Gt,zL]);rw[aa7 h0 h1]at this⊢;have e4:(zL n).length=4:=rfl;simpa[e4]using this
def aeL(n:Int)(w:World):Calls prog 117 #[.int .i64 n] w (nV w (qR n)):=by
 by_cases h:0<=n/\n<=2147483647
 ·have hm:qR n=(zL n,0):=if_pos h;rw[hm];clear hm;obtain⟨h0,h1⟩:=h
  go_enter func117,ntmps117
  go_wp2
  go_ret2
  exact nV.four w n h0 h1 _
 have hm:qR n=([],2):=if_neg h;rw[hm];clear hm;by_cases h0:n<0
 ·clear h
  go_enter func117,ntmps117
  go_wp2
  go_ret2
  exact nV.Q8 w 2
 have h1:2147483647<n:=Y;clear h
 go_enter func117,ntmps117
 go_wp2
 go_ret2
 exact nV.Q8 w 2
def Ei:(prog.info? 5).map (λi=>(i.zero,i.size,i.bytes))=some (some (.int .u8 0),1,1):=kQ
def pz:List UInt8->Int×Int
 |a::b::c::d::_=>if 127<a.toNat then(0,2)else(16777216*(a.toNat:Int)+65536*(b.toNat:Int)+256*(c.toNat:Int)+(d.toNat:Int),0)
 |_=>(0,4)
def H8{l:List UInt8}(h:l.length<4):pz l=(0,4):=by
 match l,h with
 |[],_=>rfl
 |[_],_=>rfl
 |[_,_],_=>rfl
 |[_,_,_],_=>rfl
def akr{l:List UInt8}(h:¬l.length<4):∃a b c d r,l=a::b::c::d::r:=by
 match l,h with
 |a::b::c::d::r,_=>exact⟨a,b,c,d,r,E⟩
 |[],h=>simp at h
 |[_],h=>simp at h
 |[_,_],h=>simp at h
 |[_,_,_],h=>simp at h
def WW(a:UInt8):0<=(a.toNat:Int)/\(a.toNat:Int)<=255:=by
 have:=a.toNat_lt;omega
def Ya(A:Option Addr)(n c:Nat)(l:List UInt8)(w:World){B:Nat}(h:Rd w B 1 A n (Gt l))(hn:n<=c):
 Calls prog 115 #[.slice A n c] w λe w'=>e=.returned (.tuple #[.int .i64 (pz l).1,.int .i64 (pz l).2])/\w=w':=by
 have hl:=h.nT;by_cases h4:l.length<4
 ·rw[H8 h4];have hn4:n<4:=Y;clear hl h4
  go_enter func115,ntmps115
  go_wp2
  go_ret2
  exact⟨E,E⟩
 have hn4:4<=n:=Y;have hc4:4<=c:=Y;obtain⟨x0,x1,x2,x3,r,rfl⟩:=akr h4;obtain⟨b,off,rfl,_,hcell⟩:=h.2 Y;have c0:=hcell 0 (.int .u8 x0.toNat) E;have c1:=hcell 1 (.int .u8 x1.toNat) E;have c2:=hcell 2 (.int .u8 x2.toNat) E;have c3:=hcell 3 (.int .u8 x3.toNat) E;rw[Nat.add_zero]at c0;have b0:=WW x0;have b1:=WW x1;have b2:=WW x2;have b3:=WW x3;have q0:=azp x0.toNat Y Y;have q1:=or8 x0.toNat x1.toNat Y Y Y Y;have q2:=or8 (x0.toNat*256+x1.toNat) x2.toNat Y Y Y Y;have q3:=or8 ((x0.toNat*256+x1.toNat)*256+x2.toNat) x3.toNat Y Y Y Y;have hm:pz (x0::x1::x2::x3::r)=if 127<x0.toNat then(0,2)else(16777216*(x0.toNat:Int)+65536*(x1.toNat:Int)+256*(x2.toNat:Int)+(x3.toNat:Int),0):=rfl
 clear h hl h4 hcell;by_cases hx:127<x0.toNat
 ·rw[hm,if_pos hx];clear hm
  go_enter func115,ntmps115
  go_wp2
  go_rounds 5
  go_ret2
  exact⟨E,E⟩
 rw[hm,if_neg hx];clear hm
 go_enter func115,ntmps115
 go_wp2
 go_rounds 5
 go_ret2
 exact⟨ajm Y,E⟩
end
def jN(l:List Int):List UInt8:=l.flatMap λn=>(qR n).1
def H9(n:Int):(qR n).1.length<=4:=by
 unfold qR
 split<;>simp[zL]
def EK(l:List Int):(jN l).length<=4*l.length:=by
 induction l with
 |nil=>simp[jN]
 |cons n l h=>
  have:=H9 n;simp only[jN,flatMap_cons,length_append,length_cons]at*;omega
def Ia(l k:List Int):jN (l++k)=jN l++jN k:=by simp[jN]
def aa8{l:List Int}{k:Nat}{x:Int}(h:l[k]? =some x):jN (l.take (k+1))=jN (l.take k)++(qR x).1:=by
 have e:l.take (k+1)=l.take k++[x]:=by rw[take_add_one,h];rfl
 rw[e,Ia];simp[jN]
def NW(A:Option Addr)(n c:Nat)(l:List Int)(w:World)(h:Rd w w.heap.size 1 A n (Ri l))(hn:n<=1000):
 Calls prog 110 #[.slice A n c] w (jA w 5 1 (jN l).length (Gt (jN l))):=by
 obtain⟨j0,hj0,SH,SI,SK⟩:=info_parts Ei;have H:=Lib.hid h;have HL:=Lib.hid h.ajC;clear h
 go_enter func110,ntmps110
 go_wp2_with fail
 go_loopw [3,10] (λv i wr=> ∃k:Nat,k<=n/\i=.int .i64 k/\Below w.heap.size w wr/\ ∃A2 c2,v=.slice A2 (jN (l.take k)).length c2/\wr.ownsRow w.heap.size 5 1 (.slice A2 (jN (l.take k)).length c2) (jN (l.take k)).length (Gt (jN (l.take k)))) (λ_ i _=>n-(intOf i).toNat)
 case atStart=>exact⟨0,zero_le _,E,Below.refl _ _,none,0,E,jk _ _ _ _⟩
 case round=>
  obtain⟨k,hk,rfl,hB,A2,c2,rfl,hown⟩:=hrel;have HB:=Lib.hid hB;have HO:=Lib.hid hown;have hle:=EK (l.take k);have hlk:(l.take k).length<=k:=length_take_le _ _;by_cases hlt:k<n
  ·obtain⟨b,off,x,rfl,hb,he,c0⟩:=(H.out.below hB (Nat.le_refl _)).apo hlt;have HP:=Lib.hid (aa8 he);have hl4:=H9 x;have HN:=Lib.hid (aeL x);clear hB hown he;generalize jN (l.take k)=lk at HO HP hle;generalize qR x=r at HP HN hl4
   go_wp2_with fail
   refine(HN.out _).mono ?_;rintro e w2 ⟨A3,c3,rfl,hb2,hr2⟩;have HB2:=Lib.hid (HB.out.trans (hb2.mono HB.out.size));have HO2:Hid (w2.ownsRow w.heap.size 5 1 (.slice A2 lk.length c2) lk.length (Gt lk)):=Lib.hid (Nz HO.out hb2);have HR2:=Lib.hid hr2;clear hb2 hr2
   go_wp2_with (at_builtin;refine jF _ E (.tmp 19) (.tmp 20) _ E w.heap.size 5 j0 _ 1 1 underlying99 hj0 SH SI SK E Y _ lk.length (Gt lk) E HO2.out w2.heap.size A3 r.1.length c3 (Gt r.1) E HR2.out (Q5 _) lQ Y HB2.out.size ?_;intro v1 w3 hown1 hg1 Mf)
   have HB3:=Lib.hid (HB2.out.grown hg1 HB2.out.size (HO2.out.zI ·));obtain⟨A4,c4,rfl,_⟩:=mY hown1;rw[<-Q7]at hown1;have HO3:=Lib.hid hown1;clear hown1 hg1 Mf
   go_wp2_with fail
   go_roundw
   case rel=>exact⟨k+1,by omega,by go_num,HB3.out,A4,c4,by rw[HP.out,length_append],by rw[HP.out,length_append];exact HO3.out⟩
   case measure=>simp[intOf];omega
  obtain rfl:k=n:=Y;rw[take_of_length_le (by have:=HL.out;omega)]at HO hown hle⊢;clear hB hown
  go_wp2_with fail
  go_ret
  exact⟨A2,c2,E,HB.out,HO.out⟩
def gJ(r:cO):List Int:=[r.kind,r.Nt,r.Mc,r.Rl]++if kR r.kind=true then[r.ev.kind,r.ev.Mr,r.ev.id,r.ev.body,r.ev.MF,r.ev.Nc]else[]
def nW(r:cO):List UInt8×Int:=if aH r≠0 then([],aH r)else(jN (gJ r),0)
def aa9(w:World)(a b c d:Int)(t:TypeId):Rd (w.alloc (.cells #[.int .i64 a,.int .i64 b,.int .i64 c,.int .i64 d] t)) (w.heap.size+1) 1 (some ⟨w.heap.size,0,none⟩) 4 (Ri [a,b,c,d]):=
 Rd.ah4 w t (Ri [a,b,c,d]) 4 1 E
def af8(w:World)(a b c d e f:Int)(t:TypeId):Rd (w.alloc (.cells #[.int .i64 a,.int .i64 b,.int .i64 c,.int .i64 d,.int .i64 e,.int .i64 f] t)) (w.heap.size+1) 1 (some ⟨w.heap.size,0,none⟩) 6 (Ri [a,b,c,d,e,f]):=
 Rd.ah4 w t (Ri [a,b,c,d,e,f]) 6 1 E
def aeM(r:cO)(w:World):Calls prog 84 #[r.val] w (nV w (nW r)):=by
 obtain⟨j0,hj0,SH,SI,SK⟩:=info_parts Ei;have HC:=Lib.hid (λw=>jM r w);have HR:Hid (nW r=if aH r≠0 then([],aH r)else(jN ([r.kind,r.Nt,r.Mc,r.Rl]++if kR r.kind=true then[r.ev.kind,r.ev.Mr,r.ev.id,r.ev.body,r.ev.MF,r.ev.Nc]else[]),0)):=Lib.hid E;generalize nW r=z at HR⊢;generalize aH r=f at HC HR;obtain⟨k,q,ep,pe,x0,x1,x2,x3,x4,x5⟩:=r;unfold cO.val at HC⊢;simp only at HC HR⊢
 go_enter func84,ntmps84
 go_wp2_with fail
 refine(HC.out _).mono ?_;rintro e w1 ⟨rfl,hb1⟩;have B0:=(gB.new w _ _).below hb1 iQ;obtain⟨c0,c1,c2,c3,c4,c5,c6,c7,c8,c9,cf⟩:=B0.kU;have hz1:w.heap.size<w1.heap.size:=B0.lt;have HB:Hid (Below w.heap.size w w1):=Lib.hid (Below.trans gQ (hb1.mono iQ));clear hb1;by_cases hf:f=0
 ·have HR2:=Lib.hid (HR.out.trans (if_neg (by simpa using hf)));subst hf;clear HR HC
  go_wp2_with fail
  refine(NW _ 4 4 [k,q,ep,pe] _ (by have:=aa9 w1 k q ep pe 3;simpa using this) Y).mono ?_;rintro e w2 ⟨A1,d1,rfl,hb2,hown⟩;have C0:=(B0.alloc _).on hb2;have HB2:=Lib.hid ((HB.out.alloc Y _).trans (hb2.mono jQ));have HO:Hid (w2.ownsRow (w1.heap.size+1) 5 1 (.slice A1 (jN [k,q,ep,pe]).length d1) (jN [k,q,ep,pe]).length (Gt (jN [k,q,ep,pe]))):=Lib.hid (by simpa using hown);have hz2:w1.heap.size+1<=w2.heap.size:=by have:=hb2.size;simpa using this
  have aJm:w.heap.size<w2.heap.size:=Y;have hl1:=EK [k,q,ep,pe];clear hb2 hown c0 c1 c2 c3 c4 c5 c6 c7 c8 c9 cf B0 HB;obtain⟨c0,c1,c2,c3,c4,c5,c6,c7,c8,c9,cf⟩:=C0.kU
  cases he:kR k
  ·have e:=HR2.out;rw[if_neg (by rw[he];simp),append_nil]at e;subst e;clear HR2
   go_wp2_with (go_at_call 77;refine(gq _ _).mono ?_;rintro e w' ⟨rfl,rfl⟩;rw[he])
   go_ret2
   exact⟨A1,d1,E,HB2.out,Rd.uf HO.out⟩
  have e:=HR2.out;rw[if_pos he,Ia]at e;subst e;clear HR2;have hl2:=EK [x0,x1,x2,x3,x4,x5];have HP:=Lib.hid (λA c w h=>NW A 6 c [x0,x1,x2,x3,x4,x5] w h Y);simp only[length_cons,length_nil]at hl1 hl2
  go_wp2_with (go_at_call 77;refine(gq _ _).mono ?_;rintro e w' ⟨rfl,rfl⟩;rw[he])
  refine(HP.out _ _ _ (by have:=af8 (w2.alloc (.cells #[.int .i64 x0,.int .i64 x1,.int .i64 x2,.int .i64 x3,.int .i64 x4,.int .i64 x5] 49)) x0 x1 x2 x3 x4 x5 3;simpa using this)).mono ?_;rintro e w3 ⟨A2,d2,rfl,hb3,hown2⟩;have HB3:=Lib.hid (((HB2.out.alloc Y _).alloc jQ _).trans (hb3.mono jQ));have HO2:=Lib.hid (Nz ((HO.out.alloc _).alloc _) hb3);have HR3:=Lib.hid (Rd.uf hown2);have hz3:w2.heap.size<=w3.heap.size:=by have:=hb3.size;simp at this;omega
  clear hb3 hown2 HO HB2
  go_wp2_with (at_builtin;refine jF _ E (.tmp 27) (.tmp 43) _ E (w1.heap.size+1) 5 j0 _ 1 1 underlying99 hj0 SH SI SK E Y _ (jN [k,q,ep,pe]).length (Gt (jN [k,q,ep,pe])) E HO2.out w3.heap.size A2 (jN [x0,x1,x2,x3,x4,x5]).length d2 (Gt (jN [x0,x1,x2,x3,x4,x5])) E HR3.out (Q5 _) lQ Y Y ?_;intro v1 w4 hown1 hg1 Mf;obtain⟨A4,d4,rfl,_⟩:=mY hown1;rw[<-Q7]at hown1)
  have HB4:=Lib.hid (HB3.out.grown hg1 HB3.out.size (λk hk=>by have:=HO2.out.zI k hk;omega))
  go_ret2
  exact⟨A4,d4,by simp,HB4.out,by have:=Rd.uf hown1;simpa using this⟩
 have e:=HR.out.trans (if_pos hf);subst e;have t0:(f==0)=false:=by simpa using hf
 have t0':(f != 0)=true:=by simpa using hf
 clear hf
 go_wp2_with fail
 go_ret2
 exact⟨none,0,E,HB.out,Rd.Q8⟩
def abb(c:Int):Value:=.iface 201 (.agg #[.int .i64 c])
def tL:Array Value:= #[.int .i64 0,.int .i64 0,.int .i64 0,.int .i64 0,.int .i64 0,.int .i64 0,.int .i64 0,.int .i64 0,.int .i64 0,.int .i64 0]
def Ej:(prog.info? 138).map (·.size)=some 10:=kQ
def Yb(R lK:Nat)(c:Int)(w:World)(e:Ending)(u':FrameMode)(w':World):Prop:=
 e=.returned (.tuple #[])/\u'=.panicking [{v:=abb c,recovered:=true}]/\(∀B,B<=R->B<=lK->Below B w w')/\gB w' R tL 138/\gB w' lK #[.int .i64 c] 52
def og(R lK:Nat)(c x:Int)(row:Array Value)(w:World)(hne:R≠lK)(h1:gB w R row 138)(hs:row.size=10)(h2:gB w lK #[.int .i64 x] 52):
 CallsD prog 101 #[.pointer (some ⟨R,0,none⟩),.pointer (some ⟨lK,0,none⟩)] (.panicking [{v:=abb c,recovered:=false}]) w (Yb R lK c w):=by
 refine callsD_of_wpS func101 E λc₀ cs hu=>?_;apply wpS_seq;apply wpS_region;simp[wpOpsS,go_sem,recoverD,hu,ntmps101,Exit.thenS,abb];refine wpS_of_wp ?_;rw[show((#[.pointer (some ⟨R,0,none⟩),.pointer (some ⟨lK,0,none⟩)]:Array Value)++((Array.replicate 8 undef).setIfInBounds 1 (.iface 201 (.agg #[.int .i64 c]))).setIfInBounds 0 (.iface 201 (.agg #[.int .i64 c])))= #[.pointer (some ⟨R,0,none⟩),.pointer (some ⟨lK,0,none⟩),.iface 201 (.agg #[.int .i64 c]),.iface 201 (.agg #[.int .i64 c]),undef,undef,undef,undef,undef,undef]from E];obtain⟨z0,z1,z2,z3,z4,z5,z6,z7,z8,z9,rfl⟩:∃z0 z1 z2 z3 z4 z5 z6 z7 z8 z9,row= #[z0,z1,z2,z3,z4,z5,z6,z7,z8,z9]:=by
  obtain⟨l⟩:=row
  match l,hs with
  |[z0,z1,z2,z3,z4,z5,z6,z7,z8,z9],_=>exact⟨_,_,_,_,_,_,_,_,_,_,E⟩
 obtain⟨c0,c1,c2,c3,c4,c5,c6,c7,c8,c9,cf⟩:=h1.kU;have e0:=h2.cell (k:=0) E;have ef:=h2.free;have ht:∀w,(Instr.typeAssert (.iface 201 (.agg #[.int .i64 c])) 20 201 false).run prog w=.ok (.agg #[.int .i64 c]) w:=λw=>by kernel_rfl
 go_wp2_with fail
 refine wp_region_any kQ ?_;change wpAny _ _ _ _ _ _ _ (World.drew _);have U0:=Gu w R;have D1:=h1.drew;have D2:=h2.drew;generalize World.drew w=w6 at U0 D1 D2⊢;clear c0 c1 c2 c3 c4 c5 c6 c7 c8 c9 cf e0 ef;refine wpAny_take (i:=0) (v:=?_) E kQ kQ kQ (λ_ _ _ h=>h) (Or.inl ⟨by rfl,?_⟩) ?_
 ·exact .agg #[.int .i64 0,.int .i64 0,.int .i64 0,.int .i64 0,.int .i64 0,.int .i64 0,.int .i64 0,.int .i64 0,.int .i64 0,.int .i64 0]
 ·intro w;go_simp
 refine wpAny_take (i:=1) (v:=?_) E kQ kQ kQ (λ_ _ _ h=>h) (Or.inl ⟨by rfl,?_⟩) ?_
 ·exact .iface 201 (.agg #[.int .i64 c])
 ·intro w;go_simp
 refine wpAny_ready (rs:=[2,4]) kQ iQ ?_;refine AllReady.cons E (λK hK=>?_) (AllReady.cons E (λK hK=>?_) AllReady.nil)
 ·go_simp
  refine hK _ _ ?_;clear hK K;refine wpAny_ready (rs:=[3,4]) kQ iQ ?_;refine AllReady.cons E (λK hK=>?_) (AllReady.cons E (λK hK=>?_) AllReady.nil)
  ·go_simp
   refine hK _ _ ?_;clear hK K;refine wpAny_ready (rs:=[4]) kQ iQ ?_;refine AllReady.cons E (λK hK=>?_) AllReady.nil;refine vJ E _ (.tmp 0) (.tmp 6) E R E _ E _ _ D1 Ej E E ?_;intro w9 JK CP;refine hK _ _ ?_;clear hK K;have D2:=CP.Mg D2 hne.symm;refine wpAny_ready (rs:=[5]) kQ iQ ?_;refine AllReady.cons E (λK hK=>?_) AllReady.nil;have e0:=D2.cell (k:=0) E;have ef:=D2.free
   go_simp
   refine hK _ _ ?_;clear hK K;refine wpAny_done kQ ?_ _
   go_wp2_with fail
   simp[bodyPostS,results,results101];exact⟨E,E,λB hR hE=>((U0.below hR).trans (CP.below hR)).setCell (by simpa using hE) _,JK.other _ (by simpa using hne) _,D2.wz 0 _⟩
  refine vJ E _ (.tmp 0) (.tmp 6) E R E _ E _ _ D1 Ej E E ?_;intro w9 JK CP;refine hK _ _ ?_;clear hK K;have D2:=CP.Mg D2 hne.symm;refine wpAny_ready (rs:=[3]) kQ iQ ?_;refine AllReady.cons E (λK hK=>?_) AllReady.nil
  go_simp
  refine hK _ _ ?_;clear hK K;refine wpAny_ready (rs:=[5]) kQ iQ ?_;refine AllReady.cons E (λK hK=>?_) AllReady.nil;have e0:=D2.cell (k:=0) E;have ef:=D2.free
  go_simp
  refine hK _ _ ?_;clear hK K;refine wpAny_done kQ ?_ _
  go_wp2_with fail
  simp[bodyPostS,results,results101];exact⟨E,E,λB hR hE=>((U0.below hR).trans (CP.below hR)).setCell (by simpa using hE) _,JK.other _ (by simpa using hne) _,D2.wz 0 _⟩
 refine vJ E _ (.tmp 0) (.tmp 6) E R E _ E _ _ D1 Ej E E ?_;intro w9 JK CP;refine hK _ _ ?_;clear hK K;have D2:=CP.Mg D2 hne.symm;refine wpAny_ready (rs:=[2]) kQ iQ ?_;refine AllReady.cons E (λK hK=>?_) AllReady.nil
 go_simp
 refine hK _ _ ?_;clear hK K;refine wpAny_ready (rs:=[3]) kQ iQ ?_;refine AllReady.cons E (λK hK=>?_) AllReady.nil
 go_simp
 refine hK _ _ ?_;clear hK K;refine wpAny_ready (rs:=[5]) kQ iQ ?_;refine AllReady.cons E (λK hK=>?_) AllReady.nil;have e0:=D2.cell (k:=0) E;have ef:=D2.free
 go_simp
 refine hK _ _ ?_;clear hK K;refine wpAny_done kQ ?_ _
 go_wp2_with fail
 simp[bodyPostS,results,results101];exact⟨E,E,λB hR hE=>((U0.below hR).trans (CP.below hR)).setCell (by simpa using hE) _,JK.other _ (by simpa using hne) _,D2.wz 0 _⟩
def K9(R lK:Nat)(w:World):
 CallsD prog 101 #[.pointer (some ⟨R,0,none⟩),.pointer (some ⟨lK,0,none⟩)] .returning w λe u' w'=>e=.returned (.tuple #[])/\u'=.returning/\w'=w:=by
 refine callsD_of_wpS func101 E λc₀ cs hu=>?_;apply wpS_seq;apply wpS_region;simp[wpOpsS,go_sem,recoverD,hu,ntmps101,Exit.thenS];refine wpS_of_wp ?_
 go_wp2_with fail
 cases c₀;simp_all [bodyPostS,results,results101]
def Km(B n:Nat)(l:List UInt8)(w:World)(e:Ending)(w':World):Prop:=
 (∃q,w'=w.drewN q)/\(((pz l).2=0/\ ∃A c,e=.returned (.tuple #[.int .i64 (pz l).1,.slice A (n-4) c])/\n-4<=c/\c<=maxLen/\4<=n/\Rd w B 1 A (n-4) (Gt (l.drop 4)))\/((pz l).2≠0/\e=.panicked [{v:=abb (pz l).2,recovered:=false}]))
def Yc{l:List UInt8}(h:(pz l).2=0):4<=l.length:=by
 rcases Nat.lt_or_ge l.length 4 with h1|h1
 ·rw[H8 h1]at h
  cases h
 exact h1
def aaV(l:List UInt8)(m:Nat):(Gt l).drop m=Gt (l.drop m):=by simp[Gt,map_drop]
def La(A:Option Addr)(n c:Nat)(l:List UInt8)(w:World){B:Nat}(h:Rd w B 1 A n (Gt l))(hn:n<=c)(hcm:c<=maxLen):
 Calls prog 102 #[.slice A n c] w (Km B n l w):=by
 have HT:=Lib.hid (λw (h:Rd w B 1 A n (Gt l))=>Ya A n c l w h hn);have H:=Lib.hid h;have H4:=Lib.hid (Yc (l:=l));have hl:=h.nT;subst hl;unfold maxLen at hcm;have HP:Hid (∀e w',Km B l.length l w e w'=((∃q,w'=w.drewN q)/\(((pz l).2=0/\ ∃A c,e=.returned (.tuple #[.int .i64 (pz l).1,.slice A (l.length-4) c])/\l.length-4<=c/\c<=maxLen/\4<=l.length/\Rd w B 1 A (l.length-4) (Gt (l.drop 4)))\/((pz l).2≠0/\e=.panicked [{v:=abb (pz l).2,recovered:=false}])))):=Lib.hid (λ_ _=>E);generalize Km B l.length l w=Post at HP⊢;generalize pz l=t at HT H4 HP;obtain⟨t1,t2⟩:=t;clear h;by_cases ht:t2=0
 ·have h4:=H4.out ht;subst ht;by_cases hc4:c=4
  ·subst hc4;have h4i:(4:Int)<=(l.length:Int):=Y;have hl4:=Lib.hid (show l.length=4 by omega)
   go_enter func102,ntmps102
   go_wp2_with fail
   refine(HT.out _ H.out).mono ?_;rintro e w1 ⟨rfl,rfl⟩;simp only
   go_wp2_with fail
   go_region
   go_wp2_with fail
   rw[HP.out];have e1:=hl4.out;have e2:l.length-4=0:=Y;rw[e2,drop_of_length_le (Nat.le_of_eq e1)];exact⟨⟨1,E⟩,.inl ⟨trivial,A,0,E,Nat.le_refl _,zero_le _,h4,Rd.Q8⟩⟩
  have aJn:(c==4)=false:=by simpa using hc4
  have h4i:(4:Int)<=(l.length:Int):=Y;have H5:=Lib.hid (H.out.cut (k:=4) h4 hn);rw[if_neg hc4]at H5
  go_enter func102,ntmps102
  go_wp2_with fail
  refine(HT.out _ H.out).mono ?_;rintro e w1 ⟨rfl,rfl⟩;simp only
  go_wp2_with fail
  go_region
  go_wp2_with fail
  rw[HP.out];refine⟨⟨1,E⟩,.inl ⟨trivial,_,_,E,by omega,by unfold maxLen;omega,h4,?_⟩⟩;have h5:=H5.out;rw[Nat.mul_one,aaV]at h5;exact h5
 have hb1:(t2==0)=false:=by simpa using ht
 have hb2:(t2 != 0)=true:=by simpa using ht
 have HT2:=Lib.hid ht;clear ht
 go_enter func102,ntmps102
 go_wp2_with fail
 refine(HT.out _ H.out).mono ?_;rintro e w1 ⟨rfl,rfl⟩;simp only
 go_wp2_with fail
 refine⟨E,?_⟩;rw[HP.out];exact⟨⟨0,E⟩,.inr ⟨HT2.out,E⟩⟩
end Go.Proofs.YtefabpdniidmbaaGreatDoor
